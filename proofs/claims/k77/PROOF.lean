import PyProof.Rows.All
import Wide.All
import OpenK.AllK
import Wide.FinOn
import HandS.ForMost
import HandS.ForExc
import KE.KExcSuper
import KE.KSuper
import KE.GoesRaise
import HandS.Zip
import HandS.Small
import HandS.TupMul
import KE.GoesNew
import KE.GoesEnum
import PySem.Str
import HandS.Style
import HandS.Flow
import HandS.Conv
import HandS.Codes
import HandS.IsInst
import HandS.TupAny
import HandS.DictComp
import HandS.Replace
import PySem.Challenge.RW_whattocheck_k77_whole_octets_and_what_a
import PyProof.StrOps2
import KE.BitLaws
section
set_option Elab.async false
set_option linter.all false
set_option maxRecDepth 100000
set_option maxHeartbeats 4000000
/-! An own error over ValueError (through a chain of own classes) whose __init__ says super().__init__(text) and stores its one argument: C(e) made, raised; its field read. -/
namespace Own
open PySem PySem.W PySem.Calls PyProof.Rows PySem.HandSPX
/-! ### the text of __init__ -/
def iA (fld : Str) (p1 p2 : Pos) : Arguments := { posonlyargs := [], args := [{ arg := "self", annotation := none, pos := p1 }, { arg := fld, annotation := none, pos := p2 }], vararg := none, kwonlyargs := [], kw_defaults := [], kwarg := none, defaults := [] }
def iB (msg fld : Str) (a1 a2 a3 a4 a5 a6 b1 b2 b3 b4 : Pos) : List Stmt :=
  [.Expr (.Call (.Attribute (.Call (.Name "super" a1) [] [] a2) "__init__" a3) [.Constant (.str msg) 0 a4] [] a5) a6, .Assign [.Attribute (.Name "self" b1) fld b2] (.Name fld b3) b4]
def iS (fld : Str) : Scope := { kind := .function, names := [(PySem.Str.ofString "self", .local), (fld, .local), (PySem.Str.ofString "__class__", .free), (PySem.Str.ofString "super", .globalImplicit)], isGenerator := false, isCoroutine := false, more := [] }
/-- the field's name is no other name of __init__ -/
structure Plain (fld : Str) : Prop where
  ns : fld ≠ "self"
  nc : fld ≠ "__class__"
  nu : fld ≠ "super"
  nd : (fld == ("__debug__" : Str)) = false
  bd : ∀ (qual : Str) (body : List Stmt) (p1 p2 : Pos) (doc pm : Value) (an : Option Addr) (cd ct : Value) (cc : Addr) (x v : Value),
    bindArgs (ksFn "__init__" qual (iA fld p1 p2) body (iS fld) .none .none doc pm an cd ct cc) ⟨[x, v], []⟩ = pure [(("self" : Str), x), (fld, v)]
theorem plain_at : Plain "at" := ⟨by decide, by decide, by decide, by decide, fun _ _ _ _ _ _ _ _ _ _ _ _ => by first | rfl | with_unfolding_all rfl⟩
theorem plain_value : Plain "value" := ⟨by decide, by decide, by decide, by decide, fun _ _ _ _ _ _ _ _ _ _ _ _ => by first | rfl | with_unfolding_all rfl⟩
/-- what the written part says of the class, at C, and of its __init__, at fI -/
structure Txt (prog : Program) (K : Frag) (mg : Str → Option Value) (cn fld : Str) (C fI : Addr) : Prop where
  gC : mg cn = some (.ref C)
  cls : ∃ nm q N bs bm sn sub ab col dd k0 k1 k2 k3 k5, K.lookup C = some (excClassObj nm q C N bs bm true sn sub ab col dd k0 k1 k2 k3 k5 "ValueError.__new__") ∧ refsVE bm = true
  sa : findIn K (.ref C) "__setattr__" = some (some (.builtin "object.__setattr__"))
  ga : findIn K (.ref C) "__getattribute__" = some (some (.builtin "BaseException.__getattribute__"))
  gg : findIn K (.ref C) "__getattr__" = some none
  noN : findIn K (.ref C) fld = some none
  iC : findIn K (.ref C) "__init__" = some (some (.ref fI))
  tC : typeIn K (.ref fI) = some (.type "function")
  kC : keepIn K (.ref C) = true
  exC : subIn K (.ref C) (.type "BaseException") = some true
  tyC : typeIn K (.ref C) = some (.type "type")
  hdC : hasDictIn K C = true
  te : exmOne K (.ref C) (.ref C) = some true
  fn : ∃ (qual msg : Str) (oc : Value) (od : Option Addr) (doc pm : Value) (an : Option Addr) (cda : Addr) (ct : Value) (osl : Array (Option Value)) (cc : Addr) (p1 p2 a1 a2 a3 a4 a5 a6 b1 b2 b3 b4 : Pos),
    K.lookup fI = some ⟨oc, od, .func (ksFn "__init__" qual (iA fld p1 p2) (iB msg fld a1 a2 a3 a4 a5 a6 b1 b2 b3 b4) (iS fld) .none .none doc pm an (.ref cda) ct cc), osl⟩ ∧ codeIn K (.ref cda) qual = true ∧
      (∃ ccl cdd vs ccs file tf, K.lookup cda = some ⟨ccl, cdd, .fields vs, ccs⟩ ∧ vs[2]? = some (.str file tf) ∧ ((prog.main.file : Str) == file) = true) ∧ (∃ cl cld csl, K.lookup cc = some ⟨cl, cld, .cell (some (.ref C)), csl⟩) ∧ (a3.endLine == a5.line) = true
  sup : mg "super" = none
  htop : (prog.main.scope.names.lookup ("super" : Str)).isSome = false
  via : ks_superIn K C C "__init__" = some (some (.builtin "ValueError.__init__"))
  sb : subIn K (.ref C) (.type "ValueError") = some true
  ms : mroIn K C (.ref C) = some true
  opq : nsIn K cStatics "thirdparty.any" = some none

theorem sup_form (a1 a2 a3 a4 a5 : Pos) (msg : Str) (env : Env) (hl : (a3.endLine == a5.line) = true) : eval (.Call (.Attribute (.Call (.Name "super" a1) [] [] a2) "__init__" a3) [.Constant (.str msg) 0 a4] [] a5) env = (do
      let ov ← attributeBase (.Call (.Name "super" a1) [] [] a2) "__init__" env (eval (.Call (.Name "super" a1) [] [] a2) env)
      standAt a3.atName
      let (f, first) ← holding [ov] (getMethod ov "__init__" (do return (← importBound (.Call (.Name "super" a1) [] [] a2) env).getD true))
      callWith a5 f first (backTo a5 (starEach [.Constant (.str msg) 0 a4] env)) []) := by
  rw [eval]
  have few : methodCallForm ([Expr.Constant (Const.str msg) 0 a4].length + ([] : List Keyword).length) (backTo a5 (starEach [Expr.Constant (Const.str msg) 0 a4] env)) (backToKw a5 (keywordEach [] env)) = true := rfl
  have kw : backToKw a5 (keywordEach [] env) = [] := rfl
  unfold methodCall
  simp only [few]
  rw [kw]
  have e : ∀ o, methodCallPos true o env a3 a5 = pure a5 := fun o => by
    unfold methodCallPos
    simp only [hl, Bool.not_true, Bool.false_or, if_true]
  simp only [e, calleeOf, if_true, pure_bind]
/-- what __init__ leaves of a fresh exception at x -/
structure InitEnd (fld : Str) (h h' : Heap) (x C dx t1 : Addr) (v : Value) : Prop where
  keep : ∀ b o, b ≠ x → h.get? b = some o → h'.get? b = some o
  obj : h'.get? x = some { cls := .ref C, dict := some dx, data := .fields #[.ref t1, .none, .none, .none, .bool false, .none] }
  dbig : h.objs.size ≤ dx
  dne : dx ≠ x
  ns : h'.Ns1 dx (fun y => if y = fld then some v else none)
theorem lk_self (fld : Str) (p : Plain fld) (x v : Value) : ([(("self" : Str), x), (fld, v)].reverse.lookup ("self" : Str)) = some x := by
  have e : (("self" : Str) == fld) = false := by simpa using p.ns.symm
  simp [List.lookup, e]
theorem lk_fld (fld : Str) (x v : Value) : ([(("self" : Str), x), (fld, v)].reverse.lookup fld) = some v := by simp [List.lookup]
theorem sc_fld (fld : Str) (p : Plain fld) : (iS fld).names.lookup fld = some .local := by
  have e : (fld == ("self" : Str)) = false := by simpa using p.ns
  simp [iS, List.lookup, e]
theorem sc_cls (fld : Str) (p : Plain fld) : (iS fld).names.lookup ("__class__" : Str) = some .free := by
  have e : (("__class__" : Str) == fld) = false := by simpa using p.nc.symm
  have e2 : (("__class__" : Str) == ("self" : Str)) = false := by decide
  simp [iS, List.lookup, e, e2]
theorem sc_sup (fld : Str) (p : Plain fld) : (iS fld).names.lookup ("super" : Str) = some .globalImplicit := by
  have e : (("super" : Str) == fld) = false := by simpa using p.nu.symm
  have e2 : (("super" : Str) == ("self" : Str)) = false := by decide
  have e3 : (("super" : Str) == ("__class__" : Str)) = false := by decide
  simp [iS, List.lookup, e, e2, e3]
section
variable {prog : Program} {w : World} {A : Around} {E : Value → Shared → Prop} {R : Result → Shared → Prop} {K : Frag} {mg gm mb : Str → Option Value} {cn fld : Str} {C fI : Addr}
theorem call_mw {u x t0 : Addr} {msg : Value} {Q : Value → Shared → Prop} {h : Heap} {g : Array GenState} {d : Drawn} {t : Nat} {os : OsState} {nm q : Str} {N : Addr} {bs bm : List Value} {sn : List Str} {sub : List Value} {ab : Bool} {col : Option Bool} {dd : Option Addr} {k0 k1 k2 k3 k5 : Option Value}
    (hC : h.get? C = some (excClassObj nm q C N bs bm true sn sub ab col dd k0 k1 k2 k3 k5 "ValueError.__new__")) (hx : h.get? x = some (excO C t0)) (hu : h.get? u = some (kxs_mw "ValueError.__init__" x))
    (hq : ∀ h' t1, (∀ b o, b ≠ x → h.get? b = some o → h'.get? b = some o) → h'.get? x = some (excO C t1) → Q .none ⟨h', g, d, t, os⟩) :
    wpAny (model prog w) A (call (.ref u) [msg]) Q E ⟨h, g, d, t, os⟩ := by
  refine wpAny_call (codeAny_of_tree ?_)
  show wpAny _ A.in1 (callAny (.ref u) ⟨[msg], []⟩) _ _ _
  unfold callAny
  refine wpAny_bind (wpAny_load hu ?_)
  have k1 : (Value.type "method-wrapper" == Value.type "method" || Value.type "method-wrapper" == Value.type "builtin_function_or_method" || Value.type "method-wrapper" == Value.type "method-wrapper") = true := by decide
  simp only [kxs_mw, k1, if_true]
  refine KFB.if_so (by decide) (wpAny_bind (check_bound_init (F.excBase_ValueError).toExcCallFacts hC hx rfl (wpAny_bind (wpAny_pure (wpAny_pure ⟨plainId_quiet (F.excBase_ValueError).init.plain _, codeAny_builtin (F.excBase_ValueError).initEntry ?_⟩)))))
  exact exc_init_tree (cls := .ref C) (t0 := t0) (dv := none) (c2 := .none) (c3 := .none) (b4 := .bool false) hx (by rw [sizeLine_eq]; exact (by decide : 1 ≤ 16777216)) fun h' k e _ => hq h' _ k e
/-- __init__ called with a fresh exception -/
theorem own_init {s : Shared} (p : Plain fld) (T : Txt prog K mg cn fld C fI) {x t0 : Addr} {v : Value} (X : K.In s.heap) (hg : s.heap.Ns mainGlobals gm) (hgm : gm "super" = none) (hb : s.heap.Ns builtinsNs mb) (hbs : mb "super" = bootBuiltins "super")
    (hlim : s.heap.NoLimit) (hx : s.heap.get? x = some (excO C t0)) (hnx : K.lookup x = none) (hroom : A.depth < recursionLimit)
    (hq : ∀ h' tk dx t1, InitEnd fld s.heap h' x C dx t1 v → R (.ok (.ret .none)) { s with heap := h', toks := tk }) :
    codeAny (model prog w) A (.call (.ref fI) ⟨[.ref x, v], []⟩) R s := by
  obtain ⟨qual, msg, oc, od, doc, pm, an, cda, ct, osl, cc, p1, p2, a1, a2, a3, a4, a5, a6, b1, b2, b3, b4, ho, hcd, ⟨ccl, cdd, vs, ccs, file, tf, hcda, hvs, hfile⟩, ⟨cl, cld, csl, hcc⟩, hln⟩ := T.fn
  obtain ⟨nm, q, N, bs, bm, sn, sub, ab, col, dd, k0, k1, k2, k3, k5, hC, hbm⟩ := T.cls
  have hcl : clsIn K C = some { name := nm, bases := bs, mro := .ref C :: bm, ns := N, qualname := q, hasDict := true, slotNames := sn, subclasses := sub, abstract := ab, collection := col, hasDel := false } := by unfold clsIn; rw [hC] <;> rfl
  obtain ⟨hp, g, d, t, os⟩ := s
  dsimp only at X hg hb hlim hx hq
  refine ks_codeAny_call_defAt (fd := ksFn "__init__" qual (iA fld p1 p2) (iB msg fld a1 a2 a3 a4 a5 a6 b1 b2 b3 b4) (iS fld) .none .none doc pm an (.ref cda) ct cc) (body := iB msg fld a1 a2 a3 a4 a5 a6 b1 b2 b3 b4) (binds := [("self", .ref x), (fld, v)])
    hroom (X _ _ ho) rfl hlim (codeRec_of X hcd) rfl (BindsTo.of_eq (p.bd _ _ _ _ _ _ _ _ _ _ _ _)) ?hcell ?hloc (fun h₀ hns hk => ?_)
  case hcell =>
    intro y hy
    simp only [ksFn, fnX, iS, List.mem_cons, List.not_mem_nil, or_false] at hy
    rcases hy with rfl | rfl | rfl | rfl <;> (intro z; cases z)
  case hloc =>
    intro y hy
    simp only [List.mem_cons, List.not_mem_nil, or_false] at hy
    rcases hy with rfl | rfl
    · rfl
    · exact sc_fld fld p
  have hL : ∀ b o, hp.get? b = some o → b ≠ hp.objs.size := fun b o e => Nat.ne_of_lt (Heap.lt_size e)
  show _root_.PySem.wpAt _ _ (.func _ (ksEnv qual (iS fld) hp.objs.size fI (.ref cda) cc)) (execs _ (ksEnv qual (iS fld) hp.objs.size fI (.ref cda) cc)) _ _ _
  have X0 : K.In h₀ := X.keeps hk
  have hx0 := hk _ _ hx
  have eself : (ksEnv qual (iS fld) hp.objs.size fI (.ref cda) cc).kindOf ("self" : Str) = some .local := rfl
  have efld : (ksEnv qual (iS fld) hp.objs.size fI (.ref cda) cc).kindOf fld = some .local := sc_fld fld p
  have esup : (ksEnv qual (iS fld) hp.objs.size fI (.ref cda) cc).kindOf ("super" : Str) = some .globalImplicit := sc_sup fld p
  have ecls : (ksEnv qual (iS fld) hp.objs.size fI (.ref cda) cc).kindOf ("__class__" : Str) = some .free := sc_cls fld p
  refine ks_wpAt_execs_cons (ks_wpAt_Expr_any (ks_wpAt_MethodCall (ks_wpAt_super_base (f := fI) (cc := cda) esup ecls (by decide) rfl (X0 _ _ ho) rfl rfl rfl (X0 _ _ hcda) rfl hvs hfile T.htop ?_) (sup_form _ _ _ _ _ _ _ hln)))
  refine ks_loadName_global rfl esup (loadGlobal_builtin (mg := gm) (mb := mb) (hg.keeps hk) hgm (hb.keeps hk) (hbs.trans (by first | boot_by_name | rfl | kernel_rfl)) ⟨rfl, ?_⟩)
  refine wpAny_loadName_free rfl ecls (c := cc) rfl ⟨_, X0 _ _ hcc, rfl⟩ ?_
  refine wpAny_loadName_local rfl eself hns (lk_self fld p _ _) ?_
  have hC0 := X0 _ _ hC
  refine ks_wpAny_isType_cls hC0 rfl ⟨rfl, ?_⟩
  refine ks_wpAny_call_super hC0 rfl hx0 rfl (fun c e => by cases e) (looks_mroIn X0 T.ms) (fun h1 e1 k1 => ?_)
  have X1 : K.In h1 := X0.keeps k1
  have hx1 := k1 _ _ hx0
  have I1 : InstAt h1 x (excO C t0) C none := ⟨hx1, rfl, rfl, trivial⟩
  have hal : alongIn K "__init__" (((Value.ref C :: bm).dropWhile (· != .ref C)).drop 1) = some (some (.builtin "ValueError.__init__")) := by
    have z := T.via
    unfold ks_superIn at z
    rw [hcl] at z
    exact z
  refine kxs_getMethod kxs_ValueError e1 (looks_opaque X1 T.opq) (l₀ := .ref C :: bm) ((looks_clsIn X1 hcl).andThen .now) rfl X1 hal (I1.type.andThen (looks_subIn X1 T.sb)) (ks_ne X1 I1 hcl) (by decide) ?_
  have hu : (h1.push (kxs_mw "ValueError.__init__" x)).get? h1.objs.size = some (kxs_mw "ValueError.__init__" x) := Heap.get?_push_size _ rfl
  have k2 : ∀ b o, h1.get? b = some o → (h1.push (kxs_mw "ValueError.__init__" x)).get? b = some o := fun b o e => Heap.get?_push_of_some _ e
  refine kxs_callWith1 (h₀ := Att.noObjs h1) (L := h1.objs.size + 1) (x := x) (i := "ValueError.__init__") (news := [(h1.objs.size, kxs_mw "ValueError.__init__" x)]) (fun q hq => ?_) (List.mem_cons_self) (spliced_more (Calls.Constant_str (spliced_none ⟨hu, ?_⟩)))
  · obtain rfl := List.mem_singleton.mp hq
    exact ⟨hu, Nat.ne_of_lt (Nat.lt_succ_self _), Att.noObjs_get _ _⟩
  refine call_mw (k2 _ _ (X1 _ _ hC)) (k2 _ _ hx1) hu (fun h3 t1 k3 e3 => ?_)
  -- self.fld = fld
  have kk : ∀ b o, b ≠ x → h₀.get? b = some o → h3.get? b = some o := fun b o hb e => k3 b o hb (k2 b o (k1 b o e))
  have X3 : K.In h3 := fun b o e => kk b o (fun z => by rw [z, hnx] at e; cases e) (X0 b o e)
  have hLx : hp.objs.size ≠ x := fun z => hL _ _ hx z.symm
  have hn3 : h3.Ns hp.objs.size fun y => [((("self" : Str)), Value.ref x), (fld, v)].reverse.lookup y := by
    obtain ⟨oL, es, ep, hoL, r⟩ := hns
    exact ⟨oL, es, ep, kk _ _ hLx hoL, r⟩
  refine wpAt_of_wpAny (wpAny_execs_cons (plainObj_wpAny_Assign_Attribute (wpAny_Name (wpAny_loadName_local rfl efld hn3 (lk_fld fld _ _) (wpAny_Name (wpAny_loadName_local rfl eself hn3 (lk_self fld p _ _) ?_) (by decide))) p.nd)))
  refine set_plain X3 (ox := excO C t1) (od := none) ⟨e3, rfl, rfl, trivial⟩ T.sa ?_
  refine exc_osa X3 e3 hcl (show refsVE (.ref C :: bm) = true from hbm) rfl T.noN (fun h4 tk4 dx k4 dn dne hx4 hn4 => ?_)
  have sz : hp.objs.size ≤ h3.objs.size := by
    obtain ⟨oL, es, ep, hoL, r⟩ := hn3
    exact Nat.le_of_lt (Heap.lt_size hoL)
  exact wpAny_execs_nil (hq h4 tk4 dx t1 ⟨fun b o hb e => k4 b o hb (kk b o hb (hk b o e)), hx4, Nat.le_trans sz dn, dne, hn4⟩)
/-- a made one -/
structure OwnMade (fld : Str) (h h' : Heap) (e C d : Addr) (v : Value) : Prop where
  keep : ∀ b o, h.get? b = some o → h'.get? b = some o
  new : h.objs.size ≤ e
  obj : ∃ oe vs, h'.get? e = some oe ∧ oe.cls = .ref C ∧ oe.dict = some d ∧ oe.data = .fields vs ∧ vs[1]? = some .none
  dbig : h.objs.size ≤ d
  dne : d ≠ e
  ns : h'.Ns1 d (fun y => if y = fld then some v else none)
theorem own_made {s : Shared} (p : Plain fld) (T : Txt prog K mg cn fld C fI) {v : Value} (X : K.In s.heap) (hg : s.heap.Ns mainGlobals gm) (hgm : gm "super" = none) (hb : s.heap.Ns builtinsNs mb) (hbs : mb "super" = bootBuiltins "super")
    (hlim : s.heap.NoLimit) (hroom : A.depth + 1 < recursionLimit)
    (hq : ∀ h' tk e d, OwnMade fld s.heap h' e C d v → R (.ok (.ret (.ref e))) { s with heap := h', toks := tk }) :
    codeAny (model prog w) A (.call (.ref C) ⟨[v], []⟩) R s := by
  obtain ⟨nm, q, N, bs, bm, sn, sub, ab, col, dd, k0, k1, k2, k3, k5, hC, hbm⟩ := T.cls
  obtain ⟨hp, g, d, t, os⟩ := s
  dsimp only at X hg hb hlim hq
  have one : [v].length ≤ sizeLine := by rw [sizeLine_eq]; exact (by decide : 1 ≤ 16777216)
  have kp : ∀ b o, hp.get? b = some o → ((hp.push (kdv_tup [v])).push (excO C hp.objs.size)).get? b = some o := fun b o e => Heap.get?_push_of_some _ (Heap.get?_push_of_some _ e)
  have at1 : ((hp.push (kdv_tup [v])).push (excO C hp.objs.size)).get? (hp.objs.size + 1) = some (excO C hp.objs.size) := by heap_get
  have hnx : K.lookup (hp.objs.size + 1) = none := by
    cases e : K.lookup (hp.objs.size + 1) with
    | none => rfl
    | some o => exact absurd (Nat.lt_of_succ_lt (Heap.lt_size (X _ _ e))) (Nat.lt_irrefl _)
  refine call_own (F.excBase_ValueError) (fun Y => refsVE_contains Y bm hbm) (X _ _ hC) (looks_findIn X T.iC) (fun self => bind_fn X self T.tC) one ?_
  refine own_init (s := ⟨(hp.push (kdv_tup [v])).push (excO C hp.objs.size), g, d, t, os⟩) p T (X.keeps kp) (hg.keeps kp) hgm (hb.keeps kp) hbs (hlim.keeps kp) at1 hnx hroom fun h' tk' dx t1 ⟨k', hx, dn, dne, hns⟩ => ?_
  have old : ∀ b o, hp.get? b = some o → h'.get? b = some o := fun b o e => k' b o (Nat.ne_of_lt (Nat.lt_succ_of_lt (Heap.lt_size e))) (kp b o e)
  have z : hp.objs.size ≤ dx := Nat.le_trans (by rw [Heap.size_push, Heap.size_push]; omega) dn
  exact ⟨rfl, hq h' tk' (hp.objs.size + 1) dx ⟨old, Nat.le_succ _, ⟨_, _, hx, rfl, rfl, rfl, rfl⟩, z, dne, hns⟩⟩
end
end Own
namespace L2
open PySem PySem.Spec PyProof.Rows
theorem relO_fld {fld : Str} {v : V} {v' : Value} (r : RelV v v') (f : Str) : RelO (List.lookup f [(fld, v)]) (if f = fld then some v' else none) := by
  by_cases hw : f = fld
  · subst hw
    rw [if_pos rfl]
    have q : List.lookup f [(f, v)] = some v := by simp [List.lookup]
    rw [q]
    exact r
  · rw [if_neg hw]
    have qw : (f == fld) = false := by simpa using hw
    have q2 : List.lookup f [(fld, v)] = none := by simp [List.lookup, qw]
    rw [q2]
    trivial
section
variable {X : Cx} {C fI : Addr} {cn fld : Str}
/-- cn(e): for every new dict d the error's class and d -/
def tMkOwn (fld : Str) (C : Addr) (ta : TA) : St → Hp → XK → Prop := fun σ H Q => ta σ H fun vs H1 => ∃ v, vs = [v] ∧ ∀ d, H1 d = none → Q (.ref C) (some d) (upd H1 d (.xd [(fld, v)]))
theorem pmk_own1 {a : Expr} {ta : TA} {p pos : Pos} {k : Nat} (pl : Own.Plain fld) (T : Own.Txt X.prog X.K X.mg cn fld C fI) (hr : Room k X.A) (ha : PA X [a] ta) (hg : Gl X cn := by rfl)
    (he : starEach (a :: []) X.env = (false, eval a X.env) :: starEach [] X.env := by rfl) (hpl : (backTo pos (starEach [] X.env)).any (·.1) = false := by rfl) (hd : (cn == ("__debug__" : Str)) = false := by decide) :
    PMk X (.Call (.Name cn p) [a] [] pos) (tMkOwn fld C ta) := by
  intro pins s σ H Q I h
  refine wpAny_Call_Name_kw (ld_glob I hg T.gC ?_ hd)
  refine PySem.W.callWith_K (h₀ := X.base) I.ok.mod.kin T.kC (thn (ha.run pos pins s σ H _ I h) fun us s1 hh => ?_) he hpl
  obtain ⟨vs, H1, I1, r1, v, ev, q1⟩ := hh
  subst ev
  refine ⟨I1.kIn, ?_⟩
  cases r1 with
  | cons rv rn =>
    rename_i v' us'
    cases rn
    show wpAny _ _ (call (.ref C) [v']) _ _ _
    have hlim := I1.nolimit
    have hgl := I1.ok.mod.glob.keeps I1.bk
    obtain ⟨mb, hmb, hbs⟩ := I1.ok.mod.blt
    have hbl := hmb.keeps I1.bk
    have hkin := I1.kIn
    obtain ⟨hp, g, dr, tk, os⟩ := s1
    refine wpAny_call (Own.own_made pl T hkin hgl T.sup hbl (hbs _ (by decide)) hlim (by have := hr.dp; omega) fun h' tk' e d M => ?_)
    show MkP X pins σ Q (.ref e) ⟨h', g, dr, tk', os⟩
    obtain ⟨oe, fv, hoe, hc, hd, hdat, h1⟩ := M.obj
    have hns := M.ns
    obtain ⟨G', g1, g2⟩ := restrict h' fun b => decide (b ≠ e)
    have gk : ∀ b, b ≠ e → G'.get? b = h'.get? b := fun b hb => g1 b (decide_eq_true hb)
    have ge : G'.get? e = none := g2 e (by simp)
    have old : ∀ b o, hp.get? b = some o → G'.get? b = some o := fun b o q => (gk b (Nat.ne_of_lt (Nat.lt_of_lt_of_le (Heap.lt_size q) M.new))).trans (M.keep b o q)
    have ob : ObjOk X.prog X.w (upd H1 d (.xd [(fld, v)])) G' d (.xd [(fld, v)]) :=
      ⟨_, hns.at (fun o q => (gk d M.dne).trans q), fun f => relO_fld rv f⟩
    have J : Inv X pins σ (upd H1 d (.xd [(fld, v)])) ⟨G', g, dr, tk', os⟩ := I1.laid (t' := tk') old M.dbig ob
    refine ⟨e, oe, fv, ⟨G', g, dr, tk', os⟩, _, .ref C, some d, rfl, J, fun b o q => ?_, ge, hoe, ⟨hc, hd⟩, hdat, h1, ?_, rfl, I1.bare, raises_own T.exC T.tyC, q1 d (I1.hok.fresh M.dbig)⟩
    · by_cases hb : b = e
      · have q' : G'.get? b = some o := q
        rw [hb, ge] at q'; cases q'
      · exact (gk b hb).symm.trans q
    · rw [upd_ne (Ne.symm M.dne)]
      exact I1.hok.fresh M.new
/-- raise cn(e) -/
def tRaiseOwn (fld : Str) (C : Addr) (W : WX) (ta : TA) : TS := fun _ σ H => tMkOwn fld C ta σ H fun cls d H' => W cls d σ H'
theorem ps_raiseOwn {a : Expr} {ta : TA} {W : WX} {p pos pos2 : Pos} {k : Nat} (pl : Own.Plain fld) (hc : X.calm = true) (T : Own.Txt X.prog X.K X.mg cn fld C fI) (hr : Room k X.A) (tk : Takes X W) (ha : PA X [a] ta) (hg : Gl X cn := by rfl)
    (he : starEach (a :: []) X.env = (false, eval a X.env) :: starEach [] X.env := by rfl) (hpl : (backTo pos (starEach [] X.env)).any (·.1) = false := by rfl) (hd : (cn == ("__debug__" : Str)) = false := by decide) :
    PS X (.Raise (some (.Call (.Name cn p) [a] [] pos)) none pos2) (tRaiseOwn fld C W ta) := ps_raise hc tk (pmk_own1 pl T hr ha hg he hpl hd)
/-- x.fld, x the exception that the suite holds (at a; its class cls, its dict d) -/
def tByOwn (fld : Str) (C : Addr) (a : Addr) (cls : Value) (d : Option Addr) (te : TE) : TE := fun σ H Q => te σ H fun x H1 => x = .ref a ∧ cls = .ref C ∧ ∃ (dd : Addr) (v : V), d = some dd ∧ H1 dd = some (.xd [(fld, v)]) ∧ Q v H1
theorem pe_byOwn {a : Addr} {oe : Obj} {cls : Value} {d : Option Addr} {pn : List (Addr × Obj)} {e : Expr} {te : TE} {pos : Pos} (T : Own.Txt X.prog X.K X.mg cn fld C fI) (hz : Zc cls d oe) (hf : ∃ vs, oe.data = .fields vs) (he : PE (X.suite a ((a, oe) :: pn)) e te)
    (hb : attributeBase e fld X.env (eval e X.env) = eval e X.env := by rfl) :
    PE (X.suite a ((a, oe) :: pn)) (.Attribute e fld pos) (tByOwn fld C a cls d te) := by
  refine ⟨fun pins s σ H Q I h => ?_⟩
  refine attr_of hb (thn (he.run pins s σ H _ I h) fun u s1 hh => ?_)
  obtain ⟨x, H1, I1, rx, ex, ec, dd, v, ed, ea, q⟩ := hh
  subst ex
  obtain rfl : u = Value.ref a := rx
  subst ec
  subst ed
  obtain ⟨ha, _⟩ := I1.pin (a, oe) (List.mem_append_left _ List.mem_cons_self)
  obtain ⟨vs, hd⟩ := hf
  have hx : ObjOk X.prog X.w H1 s1.heap dd (.xd [(fld, v)]) := I1.hok dd _ ea
  obtain ⟨mA, hns, hr⟩ := hx
  obtain ⟨od, ho, hl⟩ := lookIn_ns hns
  have l : List.lookup fld [(fld, v)] = some v := by simp [List.lookup]
  obtain ⟨u, hu, ru⟩ := RelO.some_of (v := v) (o := mA fld) (by rw [← l]; exact hr fld)
  have J : PySem.W.InstAt s1.heap a oe C (some od) := ⟨ha, hz.1, by unfold PySem.W.notCls; rw [hd] <;> rfl, by rw [hz.2]; exact ho⟩
  exact HandSPX.exc_get I1.kIn J T.ga T.gg T.exC (PySem.W.findObj_own T.hdC T.noN rfl (by rw [hl, hu])) (handed_of ru) ⟨v, H1, I1.tok _, ru, q⟩
end
end L2
end

section
set_option Elab.async false
set_option linter.all false
set_option maxRecDepth 100000
set_option maxHeartbeats 4000000
/-! A list comprehension whose element may raise (out of a call): the exception leaves it and is in the air of the def. -/
namespace L2
open PySem PySem.Spec PyProof.Rows
section
variable {X : Cx} {pins : List (Addr × Obj)} {σ : St} {H3 : Hp} {s3 : Shared} {W : WX} {scope : Scope} {ce : Env} {fp : List Addr}
/-- the block of a comprehension with a wish about what its element raises -/
abbrev Cx.blkX (X : Cx) (s : Shared) (H : Hp) (scope : Scope) (cenv : Env) (fp : List Addr) : Cx :=
  { X.blk s H scope cenv fp with xe := notedBy (model X.prog X.w) X.A cenv (CompFails (model X.prog X.w) X.A X.xe cenv) }
theorem held_but {B h1 h2 : Heap} {l : List Env} {a C L : Addr} {Z : Obj → Prop} {m m2 : Str → Option Value} (hh : HandSPX.HeldZ B l a Z L h1) (hB : B.get? C = none) (hn1 : h1.Ns C m) (hn : h2.Ns C m2) (sb : Heap.SameBut C h1 h2) : HandSPX.HeldZ B l a Z L h2 := by
  obtain ⟨st, na, fr, oe, vs, T, oT, ts, he, hz, hd, hT0, hTn, hTe, hT, hdT, hts⟩ := hh
  obtain ⟨oC, es, ep, hoC, hdC, _⟩ := hn1
  have ne : ∀ {b : Addr} {o : Obj} {us : Array Value}, h1.get? b = some o → o.data = .fields us → b ≠ C := fun {b o us} e f z => by
    rw [z, hoC] at e
    injection e with e
    rw [e, f] at hdC
    cases hdC
  exact ⟨fun b o e => (sb.2 b fun z => by rw [z, hB] at e; cases e).trans (st b o e), na, Heap.FunFrames.sameBut sb hn fr,
    oe, vs, T, oT, ts, (sb.2 a (ne he hd)).trans he, hz, hd, hT0, hTn, hTe, (sb.2 T (ne hT hdT)).trans hT, hdT, hts⟩
theorem blk_passes (I3 : Inv X pins σ H3 s3) (hs : X.stack = X.env :: X.outer) (hf : X.env.frame = some X.env.locals) (tk : Takes X W) (hfp : ∀ b ∈ fp, FpOk X pins H3 b) (cf : ce.frame = X.env.frame) (cL : ce.locals = s3.heap.objs.size) :
    Passes (CX X.prog X.w) (X.blkX s3 H3 scope ce fp) (fun cls d H' => W cls d σ H') := by
  intro pinsB σB H8 s9 e s' IB hc
  obtain ⟨a, B, H', cls, d, rfl, fl, hok, ub, na, os, ag, hE⟩ := hc
  have fl : HandSPX.FlyingZ B X.stack a (Zc cls d) s'.heap := fl
  have ub : UB (frs X.stack) H8 H' s9.heap B s'.heap := ub
  -- the block's names are no frame, not tracked
  have frLt : ∀ b ∈ frs X.stack, b < s3.heap.objs.size := fun b hb => by
    obtain ⟨_, o', e', _⟩ := I3.stack.mem hb
    exact Heap.lt_size e'
  have cNf : ce.locals ∉ frs X.stack := fun hm => by
    have q := frLt _ hm
    rw [cL] at q
    exact Nat.lt_irrefl _ q
  have oldNe : ∀ {b : Addr} {o : Obj}, s3.heap.get? b = some o → b ≠ ce.locals := fun {b o} e => by rw [cL]; exact Nat.ne_of_lt (Heap.lt_size e)
  have hC8 : H8 ce.locals = none := IB.free
  obtain ⟨m, ⟨oC, es, ep, hoC, hdC, rC⟩, _⟩ := IB.loc
  have hoC : s9.heap.get? ce.locals = some oC := hoC
  have hCB : B.get? ce.locals = some oC := ub.keep _ _ hoC hC8 cNf
  have hC' : H' ce.locals = none := ub.free _ _ hoC hC8
  obtain ⟨B', b1, b2⟩ := restrict B fun b => decide (b ≠ ce.locals)
  have gB : ∀ b, b ≠ ce.locals → B'.get? b = B.get? b := fun b hb => b1 b (decide_eq_true hb)
  have gC : B'.get? ce.locals = none := b2 _ (by simp)
  have toB : ∀ b o, B'.get? b = some o → B.get? b = some o := fun b o e => by
    by_cases hb : b = ce.locals
    · rw [hb, gC] at e; cases e
    · exact (gB b hb).symm.trans e
  have noB : ∀ b, B.get? b = none → B'.get? b = none := fun b n => by
    cases q : B'.get? b with
    | none => rfl
    | some o => rw [toB b o q] at n; cases n
  have fl' : HandSPX.FlyingZ B' (X.env :: X.outer) a (Zc cls d) s'.heap := by
    obtain ⟨f1, f2, f3, oe, vs, T, oT, ts, he, hz, hd, hT0, hTn, hTe, hT, hdT, hts⟩ := fl
    rw [hs] at f3
    exact ⟨fun b o e => f1 b o (toB b o e), noB _ f2, funFrames_none f3 fun L hL => noB _ (f3.mem hL).1, oe, vs, T, oT, ts, he, hz, hd, hT0, noB _ hTn, hTe, hT, hdT, hts⟩
  have hfr : X.A.frames = some (X.env :: X.outer) := by rw [I3.ok.frames, hs]
  show wpAny _ _ (noteFrame (.ref a) ce) _ _ s'
  rw [noteFrame_env _ cf]
  refine HandSPX.looks_onZ Zc.steady hfr hf fl' (fun h1 held1 up1 => ?_)
  have hn1 : h1.Ns ce.locals m := by
    obtain ⟨sl, q⟩ := up1 ce.locals oC (fl.1 _ _ hCB) (fun vs z => by rw [hdC] at z; cases z)
    exact ⟨_, es, ep, q, hdC, rC⟩
  refine ⟨m, hn1, fun h2 m2 hn2 sb2 => ?_⟩
  have held2 := held_but held1 gC hn1 hn2 sb2
  obtain ⟨oe, vs, T, oT, ts, he, hz, hd, hT0, r⟩ := held2.2.2.2
  unfold PySem.passOn
  refine wpAny_bind (wpAny_field he hd hT0 ?_)
  rw [if_neg (show ¬ ((Value.ref T == Value.none) = true) from by simp), cf, hf]
  refine wpAny_bind (HandSPX.setFlight_onZ held2 fun h3 held3 up3 => wpAny_throw (tk _ _ ?_))
  -- back in the def
  obtain ⟨G, g1, g2⟩ := restrict h3 fun b => (B'.get? b).isSome || decide (b ∈ frs X.stack)
  have st3 : B'.StaysIn h3 := held3.1
  have gIn : ∀ b o, B'.get? b = some o → G.get? b = some o := fun b o e => by
    rw [g1 b (by simp [e])]
    exact st3 b o e
  have gF : ∀ b, b ∈ frs X.stack → G.get? b = h3.get? b := fun b hb => g1 b (by simp [hb])
  have gOut : ∀ b o, G.get? b = some o → h3.get? b = some o ∧ ((B'.get? b).isSome = true ∨ b ∈ frs X.stack) := fun b o e => by
    cases q : ((B'.get? b).isSome || decide (b ∈ frs X.stack)) with
    | false => rw [g2 b q] at e; cases e
    | true =>
      rw [g1 b q] at e
      exact ⟨e, by simpa [Bool.or_eq_true] using q⟩
  have frUp : ∀ b o, b ∈ frs X.stack → (∀ us, o.data ≠ .fields us) → s'.heap.get? b = some o → ∃ sl, h3.get? b = some { o with slots := sl } := fun b o hb hnf e => by
    obtain ⟨sl1, q1⟩ := up1 b o e hnf
    have q2 := (sb2.2 b fun z => cNf (z ▸ hb)).trans q1
    obtain ⟨sl3, q3⟩ := up3 b _ q2 hnf
    exact ⟨sl3, q3⟩
  have U : Un (frs X.stack) fp H3 H' s3.heap G := {
    keep := fun b o e n hb hx => gIn b o ((gB b (oldNe e)).trans (ub.keep b o (IB.base.keep b o e n hb hx) (IB.base.free b o e n hx) hb))
    slot := fun b o e n hb hx => by
      obtain ⟨_, o0, e0, hnf⟩ := I3.stack.mem hb
      rw [e] at e0; cases e0
      obtain ⟨sl, q⟩ := IB.base.slot b o e n hb hx
      obtain ⟨sl2, q2⟩ := ub.slot b _ q hb
      obtain ⟨sl3, q3⟩ := frUp b { o with slots := sl2 } hb hnf q2
      exact ⟨sl3, (gF b hb).trans q3⟩
    free := fun b o e n hx => by
      obtain ⟨o', e'⟩ := IB.base.there b o e hx
      exact ub.free b o' e' (IB.base.free b o e n hx)
    there := fun b o e hx => by
      obtain ⟨o', e'⟩ := IB.base.there b o e hx
      by_cases hb : b ∈ frs X.stack
      · obtain ⟨_, o0, e0, hnf⟩ := I3.stack.mem hb
        rw [e] at e0; cases e0
        obtain ⟨sl, q⟩ := IB.base.slot b o e (I3.stkFree b hb) hb hx
        obtain ⟨sl2, q2⟩ := ub.slot b _ q hb
        obtain ⟨sl3, q3⟩ := frUp b { o with slots := sl2 } hb hnf q2
        exact ⟨_, (gF b hb).trans q3⟩
      · obtain ⟨o2, e2⟩ := ub.there b o' e' hb
        exact ⟨o2, gIn b o2 ((gB b (oldNe e)).trans e2)⟩
    tups := fun b xs q => ub.tups b xs (IB.base.tups b xs q)
    frzs := fun b o xs q => ub.frzs b o xs (IB.base.frzs b o xs q)
    tbls := fun b ps q => by
      obtain ⟨r1, q1⟩ := IB.base.tbls b ps q
      obtain ⟨r2, q2⟩ := ub.tbls b _ q1
      exact ⟨r1 ++ r2, by rw [q2, Array.append_assoc]⟩ }
  have okG : HOk X.prog X.w H' G := fun b u q => (hok b u q).stay (fun c v hcb e => gIn c v ((gB c fun z => by
      rcases hcb with y | y
      · rw [y] at z; rw [z, hC'] at q; cases q
      · rw [z, hC'] at y; cases y).trans e)) (fun _ y => y) fun _ _ y => y
  have os3 : s'.os = s3.os := os.trans (IB.os)
  refine ⟨a, B', { s' with heap := G }, pins, σ, H', cls, d, rfl, I3.call' (ch := fp) os3 U okG ag (fun b hb => ⟨(hfp b hb).2.2.2.1, (hfp b hb).2.1, (hfp b hb).2.2.2.2.1, (hfp b hb).2.2.2.2.2⟩),
    fun b o e hb => ?_, Heap.UpToSlots.of_keeps fun b o e => (gOut b o e).1, .inr (.inr (by rw [hs]; exact held3)), na, rfl, ag, hE⟩
  obtain ⟨e', hh⟩ := gOut b o e
  rcases hh with hh | hh
  · obtain ⟨o', q⟩ := Option.isSome_iff_exists.mp hh
    have z := st3 b o' q
    rw [e'] at z; cases z
    exact q
  · exact absurd hh hb
/-- one turn's end, into the next turn's state -/
theorem blk_next {pn' : List (Addr × Obj)} {σ8 σ0 : St} {H' : Hp} {s' : Shared} {s7 : Heap} (I' : Inv (X.blkX s3 H3 scope ce fp) (pn' ++ pinsAt fp s7) σ8 H' s') (e8 : σ0.length = σ8.length) (k8 : ∀ (j : Nat) (v : V), σ0[j]? = some (some v) → σ8[j]? = some (some v)) :
    Inv (X.blkX s3 H3 scope ce fp) [] σ0 H' s' := (I'.unpinned (pins := [])).weak e8 k8
/-- [elt for tg in iter], elt raising out of a call -/
theorem pe_lcX {elt tg iter : Expr} {scope : Scope} {own : List (Str × Nat)} {pos : Pos} {wi : TI} {g : TG} {te : XK → TE} (hcalm : X.calm = true) (hN : X.N.Nodup) (hs : X.stack = X.env :: X.outer) (hf : X.env.frame = some X.env.locals) (tk : Takes X W)
    (hi : PI X tg iter wi) (ok : BlkOk X.N X.env.scope scope own)
    (hg : ∀ (s : Shared) (H : Hp) (C : Addr) (cl : List (Str × Addr)) (fp : List Addr), PG (X.blkX s H scope (compEnvC scope cl C X.env) fp) tg g)
    (he : ∀ (s : Shared) (H : Hp) (C : Addr) (cl : List (Str × Addr)) (fp : List Addr) (E : XK), Passes (CX X.prog X.w) (X.blkX s H scope (compEnvC scope cl C X.env) fp) E → PE (X.blkX s H scope (compEnvC scope cl C X.env) fp) elt (te E))
    (hset : ∀ x, foldedSetIterable iter X.env x = pure x := by intro _; rfl) :
    PE X (.ListComp elt [⟨tg, iter, [], 0⟩] scope pos) (fun σ H Q => tLc wi g tYes (te fun cls d H' => W cls d σ H') (own.map (·.2)) σ H Q) := by
  refine ⟨fun pins s σ H Q I h => ?_⟩
  rw [eval_ListComp]
  have fr : ∀ y ∈ scope.names, y.2 = .free → ∃ c, X.env.cells.lookup y.1 = some c := fun y hy e => (ok.free y hy e).elim (fun k => I.ok.has _ (.inl k)) fun k => I.ok.has _ (.inr k)
  refine comprehension_at rfl hset (closure_ok fr) ok.kind (fun y hy e => by rw [ok.uniq y hy, e]) (thn (hi.run pins s σ H _ I h) fun xv s1 hx => thn hx fun itv s2 hit => ?_)
  obtain ⟨it, fp, tn, J, H2, rfl, I2, T, st2, fp2, q⟩ := hit
  refine wpAny_newObj_type (newEnv_comp ?_) (by show 0 ≤ sizeLine; decide)
  have hDn : H2 s2.heap.objs.size = none := I2.hok.fresh (Nat.le_refl _)
  obtain ⟨W1, ⟨m0, w0⟩, turn⟩ := q s2.heap.objs.size hDn
  have kpush : ∀ b o, s2.heap.get? b = some o → (s2.heap.push { cls := .type "list", data := .seq ([] : List Value).toArray }).get? b = some o := fun b o e => Heap.get?_push_of_some _ e
  have I3 : Inv X pins σ (upd H2 s2.heap.objs.size (.lst [])) { s2 with heap := s2.heap.push { cls := .type "list", data := .seq ([] : List Value).toArray } } :=
    I2.laid (t' := s2.toks) kpush (Nat.le_refl _) ⟨Nat.zero_le _, [], 0, .nil, Heap.get?_push_size _ rfl⟩
  have lt2 : ∀ b ∈ fp, b < s2.heap.objs.size := fun b hb => by
    obtain ⟨o, e, _⟩ := T.obj _ _ st2 b hb
    exact Heap.lt_size e
  have fp3 : ∀ b ∈ fp, FpOk X pins (upd H2 s2.heap.objs.size (.lst [])) b := fun b hb => ⟨(upd_ne (Nat.ne_of_lt (lt2 b hb))).trans (fp2 b hb).1, (fp2 b hb).2⟩
  generalize hD : s2.heap.objs.size = D at *
  generalize hs3 : ({ s2 with heap := s2.heap.push { cls := .type "list", data := .seq ([] : List Value).toArray } } : Shared) = s3 at *
  generalize hH3 : upd H2 D (.lst []) = H3 at *
  have lt3 : ∀ b ∈ fp, b < s3.heap.objs.size := fun b hb => by
    rw [← hs3]
    show b < (s2.heap.push _).objs.size
    rw [Heap.size_push, hD]
    exact Nat.lt_succ_of_lt (lt2 b hb)
  have kall : ∀ b o, s2.heap.get? b = some o → s3.heap.get? b = some o := fun b o e => by rw [← hs3]; exact kpush b o e
  have st3 : tn 0 s3.heap := T.keep _ _ _ st2 fun b _ o e => kall b o e
  have I4 := block_start I3 ok hN (fun b hb => ⟨fp3 b hb, lt3 b hb⟩)
  have pg := hg s3 H3 s3.heap.objs.size (cellsFrom (s3.heap.objs.size + 1) scope.names (cloFrom X.env.cells scope.names [])) fp
  have pe := he s3 H3 s3.heap.objs.size (cellsFrom (s3.heap.objs.size + 1) scope.names (cloFrom X.env.cells scope.names [])) fp (fun cls d H' => W cls d σ H') (blk_passes I3 hs hf tk fp3 rfl rfl)
  show codeAny _ _ (.compStart (.ListComp elt [⟨tg, iter, [], 0⟩] scope pos) 0 (.ref it) (.ref D) (compEnvC scope (cellsFrom (s3.heap.objs.size + 1) scope.names (cloFrom X.env.cells scope.names [])) s3.heap.objs.size X.env))
    (compEnds (model X.prog X.w) X.A X.xe none (EP X pins σ Q) (.ref D) (compEnvC scope (cellsFrom (s3.heap.objs.size + 1) scope.names (cloFrom X.env.cells scope.names [])) s3.heap.objs.size X.env)) { s3 with heap := pushCells (s3.heap.push { cls := .type "dict", data := .dict #[] }) scope.names }
  have I4 : Inv (X.blkX s3 H3 scope (compEnvC scope (cellsFrom (s3.heap.objs.size + 1) scope.names (cloFrom X.env.cells scope.names [])) s3.heap.objs.size X.env) fp) [] (wipe σ (own.map (·.2))) H3 { s3 with heap := pushCells (s3.heap.push { cls := .type "dict", data := .dict #[] }) scope.names } :=
    ⟨⟨I4.ok.mod, I4.ok.kind, I4.ok.glob, I4.ok.blt, I4.ok.above, I4.ok.inj, I4.ok.has, I4.ok.cab, I4.ok.hd, I4.ok.frames, I4.ok.stk, I4.ok.exf, I4.ok.bs, I4.ok.bsz, I4.ok.noex, I4.ok.exfs, I4.ok.funs, I4.ok.frf⟩, I4.os, I4.bare, I4.base, I4.loc, I4.cell, I4.free, I4.freeC, I4.pin, I4.hok, I4.len⟩
  generalize hce : compEnvC scope (cellsFrom (s3.heap.objs.size + 1) scope.names (cloFrom X.env.cells scope.names [])) s3.heap.objs.size X.env = ce at *
  have cL : ce.locals = s3.heap.objs.size := by rw [← hce]; rfl
  generalize hs4 : ({ s3 with heap := pushCells (s3.heap.push { cls := .type "dict", data := .dict #[] }) scope.names } : Shared) = s4 at I4 ⊢
  have st4 : tn 0 s4.heap := T.keep _ _ _ st3 fun b _ o e => by rw [← hs4]; exact pushCells_keeps _ _ _ _ (Heap.get?_push_of_some _ e)
  have still : ∀ {σ' : St} {H' : Hp} {s' : Shared}, Inv (X.blkX s3 H3 scope ce fp) [] σ' H' s' → (∀ b ∈ fp, H' b = none) → ∀ b ∈ fp, FpOk (X.blkX s3 H3 scope ce fp) [] H' b := fun {σ' H' s'} I' hn b hb =>
    ⟨hn b hb, (I'.ok.exf b hb).1, I'.ok.exfs b hb, .inl hb, fun x c e => (I'.ok.exf b hb).2 x c e, fun p hp => absurd (show p ∈ ([] : List (Addr × Obj)) ++ [] from hp) (by simp)⟩
  refine codeAny_compStart_list ?loop (T.self X.A 0 _ _ _ st4 ?loop)
  refine compLoop_any (fun n s' => ∃ i H', Inv (X.blkX s3 H3 scope ce fp) [] (wipe σ (own.map (·.2))) H' s' ∧ tn i s'.heap ∧ (∀ b ∈ fp, H' b = none) ∧ W1 i n H') ?_ m0 ⟨0, H3, I4, st4, fun b hb => (fp3 b hb).1, w0⟩
  rintro n s5 ⟨i, H5, I5, st5, n5, w5⟩
  rcases turn i n H5 w5 with ⟨stop, hq⟩ | ⟨go, Nx, hNx, step⟩
  · -- no turn is left: the list is the value
    refine thnF (T.done (X.blkX s3 H3 scope ce fp) rfl rfl rfl hcalm i [] s5 _ H5 (fun _ _ => False) I5 (still I5 n5) st5 stop) fun r s6 ⟨hr, I6⟩ => ?_
    subst hr
    have Jd : Inv X pins σ H5 s6 := I3.call' (ch := fp) I6.os I6.base I6.hok I6.bare fun b hb => ⟨(fp3 b hb).2.2.2.1, (fp3 b hb).2.1, (fp3 b hb).2.2.2.2.1, (fp3 b hb).2.2.2.2.2⟩
    have nC : H5 s3.heap.objs.size = none := by
      have z : H5 ce.locals = none := I6.free
      rwa [cL] at z
    obtain ⟨m, hn, _⟩ := I6.loc
    refine ⟨m, hn, fun h2 sb => ?_⟩
    obtain ⟨q0, q1, q2, q3, q4, q5⟩ := I3.fpOk (Nat.le_refl _) nC
    exact ⟨.ref D, H5, Jd.turned (t' := s6.toks) (fun b o hb e => (sb.2 b (by show b ≠ ce.locals; rw [cL]; exact hb)).trans e) q0 q1 q3 q4 q5, rfl, hq⟩
  · refine thnF (T.item (X.blkX s3 H3 scope ce fp) rfl rfl rfl hcalm i [] s5 _ H5 (fun _ _ => False) I5 (still I5 n5) st5 go) fun r s6 ⟨u, hr, h6⟩ => ?_
    subst hr
    refine thnF h6 fun _ s7 ⟨x, H7, I7, r7, y7, st7, n7⟩ => ?_
    have I7p := I7.pinned (still I7 n7) (T.obj _ _ st7)
    refine thn (pg.run _ s7 _ H7 x u _ I7p r7 (step x H7 y7)) fun _ s8 ⟨σ8, H8, I8, hw8, q8⟩ => ?_
    refine wpAny_tests_nil ?_
    simp only [if_true]
    have q8 : te (fun cls d H' => W cls d σ H') σ8 H8 fun y H4 => ∃ acc, H4 D = some (.lst acc) ∧ acc.length < sizeLine ∧ Nx (upd H4 D (.lst (acc ++ [y]))) := q8
    refine thn (pe.run _ s8 σ8 H8 _ I8 q8) fun z s10 ⟨yv, H10, I10, r10, acc, hD10, hz10, nx⟩ => ?_
    refine app_ok (X := X.blkX s3 H3 scope ce fp) I10 hD10 hz10 r10 fun s11 I11 => ?_
    obtain ⟨m', hm, w'⟩ := hNx _ nx
    have pin' : ∀ b ∈ fp, ∀ o, s7.heap.get? b = some o → s11.heap.get? b = some o ∧ (upd H10 D (.lst (acc ++ [yv]))) b = none := fun b hb o e =>
      let z := I11.pin (b, o) (List.mem_append_right _ (List.mem_append_right _ (mem_pinsAt hb e)))
      ⟨z.1, z.2.1⟩
    refine ⟨m', hm, i + 1, _, blk_next I11 (by rw [← hw8, wipe_length]) (fun j v e => by rw [← hw8] at e; exact (wipe_some e).1), T.keep _ _ _ st7 fun b hb o e => (pin' b hb o e).1, fun b hb => ?_, w'⟩
    obtain ⟨o, e, _⟩ := T.obj _ _ st7 b hb
    exact (pin' b hb o e).2
end
end L2
end

section
set_option Elab.async false
set_option linter.all false
set_option maxRecDepth 100000
set_option maxHeartbeats 4000000
/-! More rules over the hand layer: `x is True`, xs[i] op= .., enumerate of tuples, zip of a tuple and a list, a method called with keywords. -/
namespace L2
open PySem PySem.Spec PyProof.Rows
section
variable {X : Cx}
/-- x is b, b a truth value, x anything -/
def rIsT : R2 := fun x y H Q => ∃ b : Bool, y = .bl b ∧ Q (.bl (decide (x = .bl b))) H
theorem op_isTo : OpR X (compareOp .Is) rIsT := by
  intro pins s σ H x y v u Q I rx ry h
  obtain ⟨b, rfl, q⟩ := h
  obtain rfl : u = Value.bool b := ry
  by_cases e : x = .bl b
  · subst e
    obtain rfl : v = Value.bool b := rx
    exact wpAny_is_self rfl ⟨.bl true, H, I, rfl, by simpa using q⟩
  · have hne : v ≠ Value.bool b := fun z => by
      subst z
      exact e (RelV.inj rx (show RelV (.bl b) (.bool b) from rfl))
    have hp : plainIs v (Value.bool b) = true := by
      cases x with
      | non => cases rx; rfl
      | bl _ => cases rx; rfl
      | int _ => obtain ⟨t, rfl⟩ := rx; rfl
      | str _ => obtain ⟨t, rfl⟩ := rx; rfl
      | byt _ => obtain ⟨t, rfl⟩ := rx; rfl
      | flt _ => obtain ⟨t, rfl⟩ := rx; rfl
      | ref _ => cases rx; rfl
      | ty _ => cases rx; rfl
    exact wpAny_is_other hp hne ⟨.bl false, H, I, rfl, by simpa [e] using q⟩
/-- an item of a list, ahead of a store in place -/
theorem get_list : PGet X (rIxL X.K) := by
  intro pins s σ H x y v u Q I rx ry h
  obtain ⟨p, xs, i, z, rfl, rfl, hq, he, q⟩ := h
  cases rx
  obtain ⟨t, rfl⟩ := ry
  obtain ⟨its, r, pl, hz⟩ := I.list hq
  obtain ⟨j, h1, h2, h3, h4, h5⟩ := atI_get he
  obtain ⟨w, ew, rw'⟩ := r.get h2
  have hl := r.length
  have hn := line63
  have fin : EP X pins σ Q w s := ⟨z, H, I, rw', q⟩
  by_cases h0 : 0 ≤ i
  · have hj : i.toNat = j := Option.some.inj ((seqIndex_of h0 h5).symm.trans h1)
    exact wpAny_getItem_list pl.isList h0 (by omega) (by rw [hj]; simpa using ew) fin
  · have hj : (i + (its.toArray.size : Int)).toNat = j := by
      rw [seqIndex_neg (by omega) h4] at h1
      rw [List.size_toArray, ← hl]
      exact Option.some.inj h1
    exact wpAny_getItem_list_neg pl.isList (by omega) (by rw [List.size_toArray] <;> omega) (by omega) (by rw [hj]; simpa using ew) fin
end

/-! ### enumerate of a tuple -/
/-- the tuple at a, each item with its place in a new pair -/
def IteT (K : PySem.W.Frag) (a : Addr) : It where
  go := fun i H => ∃ (xs : List V) (x : V), SqT K H a xs ∧ xs[i]? = some x
  yld := fun i H v H' => ∃ T x, v = .ref T ∧ H T = none ∧ H' = upd H T (.tup [.int (i : Nat), x]) ∧ ∀ xs, SqT K H a xs → xs[i]? = some x
  stop := fun i H => ∃ xs : List V, SqT K H a xs ∧ i = xs.length
theorem turn_enumT {P : Program} {w : World} {K : PySem.W.Frag} {elts : List Expr} {kk : Nat} {tpos : Pos} (a e it : Addr) (hei : e ≠ it) (hea : e ≠ a) (hai : a ≠ it) :
    Turn P w K (.Tuple elts kk tpos) (IteT K a) [e, it] e (fun i h => (∃ old, IsEnum h e it (0 + ((i : Nat) : Int)) old) ∧ h.IsTupleIter it a i) where
  mem := by simp
  obj := fun i h st b hb => by
    obtain ⟨⟨old, he⟩, o, ho, hc, hd⟩ := st
    rcases (by simpa using hb : b = e ∨ b = it) with z | z
    · subst z; exact ⟨_, he, fun v q => nomatch q⟩
    · subst z; exact ⟨o, ho, fun v q => by rw [hd] at q; cases q⟩
  keep := fun i h h' st k => by
    obtain ⟨⟨old, he⟩, hi⟩ := st
    exact ⟨⟨old, k e (by simp) _ he⟩, hi.at fun o q => k it (by simp) o q⟩
  item := by
    intro X hP hw hK hc i pins s σ H E I hf st hg
    subst hP hw hK
    obtain ⟨he, hit⟩ := st
    obtain ⟨xs, x, hq, hx⟩ := hg
    obtain ⟨its, rv, p, hz⟩ := I.tuple hq
    obtain ⟨u, hu, ru⟩ := rv.get hx
    have hlt : i < its.toArray.size := by
      have z := (List.getElem?_eq_some_iff.mp hu).1
      simpa using z
    have D := Draws.tuple (prog := X.prog) (w := X.w) (A := X.A.in1) (I.ok.hd hc) it a hai its.toArray
    have G := GoesN.enumFrom (elts := elts) (x1 := kk) (pos := tpos) 0 D e hei (by simp [hei, hea]) (by simp)
    have lt : ∀ b ∈ [e, it], b < s.heap.objs.size := fun b hb => by
      obtain ⟨old, he⟩ := he
      obtain ⟨o, ho, _⟩ := hit
      rcases (by simpa using hb : b = e ∨ b = it) with z | z
      · rw [z]; exact Heap.lt_size he
      · rw [z]; exact Heap.lt_size ho
    refine wpAny_mono (G.goes i s _ E hlt ⟨he, hit, p⟩ fun v h' tk hY st' hk htk => ?_) (fun r s1 ⟨v, hv, h1⟩ => ⟨v, hv, h1⟩) fun _ _ y => y
    obtain ⟨T, t, z, rfl, hT, hz', hTt⟩ := hY
    have ez : z = u := by
      have q : its[i]? = some z := by simpa using hz'
      rw [hu] at q
      exact (Option.some.inj q).symm
    subst ez
    have hTn : H T = none := I.hok.fresh hT
    have e0 : (0 : Int) + (i : Nat) = (i : Nat) := by omega
    rw [e0] at hTt
    have new : ObjOk X.prog X.w (upd H T (.tup [.int (i : Nat), x])) h' T (.tup [.int (i : Nat), x]) :=
      ⟨by show 2 ≤ sizeLine; decide, [.int i t, z], .cons ⟨_, rfl⟩ (.cons ru .nil), hTt⟩
    have J : Inv X pins σ (upd H T (.tup [.int (i : Nat), x])) { s with heap := h', toks := tk } := I.turnedNew (ch := [e, it]) hk hf hT new
    refine ⟨.ref T, _, J, rfl, ⟨T, x, rfl, hTn, rfl, fun ys hy => by rw [I.tuple_inj hy hq]; exact hx⟩, ⟨?_, st'.2.1⟩, fun b hb => ?_⟩
    · exact st'.1
    · rw [upd_ne (Nat.ne_of_lt (Nat.lt_of_lt_of_le (lt b hb) hT))]
      exact (hf b hb).1
  done := by
    intro X hP hw hK hc i pins s σ H E I hf st hg
    subst hP hw hK
    obtain ⟨he, hit⟩ := st
    obtain ⟨xs, hq, hx⟩ := hg
    obtain ⟨its, rv, p, hz⟩ := I.tuple hq
    obtain ⟨old, he⟩ := he
    have hl := rv.length
    have D := Draws.tuple (prog := X.prog) (w := X.w) (A := X.A.in1) (I.ok.hd hc) it a hai its.toArray
    have en : its.toArray.size = i := by rw [List.size_toArray]; omega
    obtain ⟨f0, f1, f2, f3, f4, f5⟩ := hf it (by simp)
    exact wpAny_pyNext_enum_endD D he ⟨by rw [en]; exact hit, p⟩ fun h' eb => ⟨rfl, I.turned (t' := s.toks) (fun b o hb q => eb b o hb q) f0 f1 f3 f4 f5⟩
  self := fun A i s Q E st h => by
    obtain ⟨⟨_, he⟩, _⟩ := st
    exact wpAny_pyIter_enum he h
theorem meets_enum1 {v : Value} {o : Obj} {Hb : Heap → Prop} (B : Begins v o Hb) : Meets (Builtin.«enumerate.__new__» ⟨[.type "enumerate", v], []⟩) (fun _ R s => Hb s.heap ∧
    R (.ok (.ret (.ref (s.heap.push o).objs.size))) { s with heap := (s.heap.push o).push { cls := .type "enumerate", data := .fields #[.none, .bool false, .ref s.heap.objs.size, rawInt 0, .none, .none] } }) :=
  .of_wp fun prog w A R s hh => by
    obtain ⟨hp, g, d, tk, os⟩ := s
    obtain ⟨hb, hr⟩ := hh
    have sub := sub_enumerate
    have go : ∀ {A' : Around} {E : Value → Shared → Prop} {Q : Value → Shared → Prop}, Q (.ref hp.objs.size) ⟨hp.push o, g, d, tk, os⟩ → wpAny (model prog w) A' (pyIter v) Q E ⟨hp, g, d, tk, os⟩ := fun q => B.iter prog w _ _ ⟨hp, g, d, tk, os⟩ _ hb q
    wp_walk using go
    refine wpAny_stack_any fun _ => wpAny_pure (by
      split
      · rename_i c _ _ _ _ _
        cases (c == Value.type "enumerate") <;> (wp_walk using go; exact ⟨_, rfl, hr⟩)
      · wp_walk using go
        exact ⟨_, rfl, hr⟩)
theorem call_enum1 {prog : Program} {w : World} {A : Around} {E : Value → Shared → Prop} {s : Shared} {v : Value} {o : Obj} {Hb : Heap → Prop} {Q : Value → Shared → Prop} (B : Begins v o Hb) (hb : Hb s.heap)
    (h : ∀ h', IsEnum h' (s.heap.objs.size + 1) s.heap.objs.size 0 .none → h'.get? s.heap.objs.size = some o → (∀ b u, s.heap.get? b = some u → h'.get? b = some u) → Q (.ref (s.heap.objs.size + 1)) { s with heap := h' }) :
    wpAny (model prog w) A (call (.type "enumerate") [v]) Q E s := by
  refine callType_new F.called_enumerate (by decide) (F.typeCall_enumerate_1 _) (F.newCall_enumerate_1 _) (fun obj => F.args_object_init_2 obj _) F.entry_enumerate_new (meets_enum1 B) ⟨hb, ?_⟩
  have hz : (s.heap.push o).objs.size = s.heap.objs.size + 1 := Heap.size_push ..
  have he : IsEnum ((s.heap.push o).push { cls := .type "enumerate", data := .fields #[.none, .bool false, .ref s.heap.objs.size, rawInt 0, .none, .none] }) (s.heap.objs.size + 1) s.heap.objs.size 0 .none := by
    rw [← hz]
    exact Heap.get?_push_size _ rfl
  rw [hz]
  exact ⟨⟨_, he, rfl⟩, h _ he (Heap.get?_push_of_some _ (Heap.get?_push_size _ B.free)) fun b u x => Heap.get?_push_of_some _ (Heap.get?_push_of_some _ x)⟩
/-- enumerate(l), l a list or a tuple -/
def iEnumA (K : PySem.W.Frag) (ta : TA) : TI := fun σ H R => ta σ H fun vs H1 => ∃ a xs, vs = [.ref a] ∧ ((SqL K H1 a xs ∧ R (Ite K a) H1) ∨ (SqT K H1 a xs ∧ R (IteT K a) H1))
theorem pi_enumA {X : Cx} {e : Expr} {ta : TA} {p pos tpos : Pos} {elts : List Expr} {kk : Nat} (hg : Gl X "enumerate") (hm : X.mg "enumerate" = none) (ha : PA X [e] ta) (hs : starEach [e] X.env = [(false, eval e X.env)] := by rfl) :
    PI X (.Tuple elts kk tpos) (.Call (.Name "enumerate" p) [e] [] pos) (iEnumA X.K ta) := by
  refine ⟨fun pins s σ H R I h => ?_⟩
  refine Call_ (ld_blt I hg hm boot_enumerate (PyProof.Rows.callWith_type1 (thn (ha.run pos pins s σ H _ I h) fun us s1 ⟨vs, H1, I1, r1, q1⟩ => ?_) hs rfl))
  obtain ⟨a, xs, rfl, q1⟩ := q1
  cases r1 with
  | cons r rr =>
    cases rr
    cases r
    have two : ∀ b ∈ [s1.heap.objs.size + 1, s1.heap.objs.size], FpOk X pins H1 b := fun b hb => by
      have hle : s1.heap.objs.size ≤ b := by
        rcases (by simpa using hb : b = s1.heap.objs.size + 1 ∨ b = s1.heap.objs.size) with z | z
        · rw [z]; exact Nat.le_add_right _ _
        · rw [z]; exact Nat.le_refl _
      exact I1.fpOk hle (I1.hok.fresh hle)
    rcases q1 with ⟨hq, q⟩ | ⟨hq, q⟩
    · obtain ⟨its, rv, pl, hz⟩ := I1.list hq
      refine call_enumerate_list pl.isList fun h' he hit hsz hk => wpAny_pyIter_enum he ?_
      exact ⟨s1.heap.objs.size + 1, [s1.heap.objs.size + 1, s1.heap.objs.size], _, _, H1, rfl, I1.kept (t' := s1.toks) hk, turn_enum a (s1.heap.objs.size + 1) s1.heap.objs.size, ⟨⟨.none, he⟩, hit, Nat.succ_ne_self _⟩, two, q⟩
    · obtain ⟨its, rv, pl, hz⟩ := I1.tuple hq
      have la : a < s1.heap.objs.size := by
        obtain ⟨o, e, _⟩ := pl
        exact Heap.lt_size e
      refine call_enum1 (begins_tuple a its.toArray) pl fun h' he hit hk => wpAny_pyIter_enum he ?_
      refine ⟨s1.heap.objs.size + 1, [s1.heap.objs.size + 1, s1.heap.objs.size], _, _, H1, rfl, I1.kept (t' := s1.toks) hk, turn_enumT a (s1.heap.objs.size + 1) s1.heap.objs.size (Nat.succ_ne_self _) ?_ (Nat.ne_of_lt la), ⟨⟨.none, ?_⟩, ⟨_, hit, rfl, rfl⟩⟩, two, q⟩
      · exact Nat.ne_of_gt (Nat.lt_succ_of_lt la)
      · exact he
/-! ### zip of a tuple and a list -/
def ItzM (K : PySem.W.Frag) (a b : Addr) : It where
  go := fun i H => ∃ (xs ys : List V) (x y : V), SqT K H a xs ∧ SqL K H b ys ∧ xs[i]? = some x ∧ ys[i]? = some y
  yld := fun i H v H' => ∃ T x y, v = .ref T ∧ H T = none ∧ H' = upd H T (.tup [x, y]) ∧ (∀ xs, SqT K H a xs → xs[i]? = some x) ∧ ∀ ys, SqL K H b ys → ys[i]? = some y
  stop := fun i H => ∃ xs ys : List V, SqT K H a xs ∧ SqL K H b ys ∧ i = min xs.length ys.length
theorem turn_zipM {P : Program} {w : World} {K : PySem.W.Frag} {elts : List Expr} {kk : Nat} {tpos : Pos} {a b z TI TO i1 i2 : Addr} (S : ZipSep2 z TI TO i1 i2 [i1, a] [i2, b]) (ha : a ≠ i1) (hb : b ≠ i2) :
    Turn P w K (.Tuple elts kk tpos) (ItzM K a b) [z, TI, TO, i1, i2] z
      (fun i h => IsZip h z TI TO .none ∧ IsTupOf2 h TI (.ref i1) (.ref i2) ∧ (∃ x y, IsTupOf2 h TO x y) ∧ h.IsTupleIter i1 a i ∧ h.IsListIter i2 b i) where
  mem := by simp
  obj := fun i h st c hc => by
    obtain ⟨hz, hTI, ⟨x, y, hTO⟩, ⟨o1, e1, _, d1⟩, o2, e2, _, d2⟩ := st
    rcases (by simpa using hc : c = z ∨ c = TI ∨ c = TO ∨ c = i1 ∨ c = i2) with q | q | q | q | q
    · subst q; exact ⟨_, hz, fun v q => nomatch q⟩
    · subst q; exact ⟨_, hTI, fun v q => nomatch q⟩
    · subst q; exact ⟨_, hTO, fun v q => nomatch q⟩
    · subst q; exact ⟨o1, e1, fun v q => by rw [d1] at q; cases q⟩
    · subst q; exact ⟨o2, e2, fun v q => by rw [d2] at q; cases q⟩
  keep := fun i h h' st k => by
    obtain ⟨hz, hTI, ⟨x, y, hTO⟩, h1, h2⟩ := st
    exact ⟨k z (by simp) _ hz, k TI (by simp) _ hTI, ⟨x, y, k TO (by simp) _ hTO⟩, h1.at fun o q => k i1 (by simp) o q, h2.at fun o q => k i2 (by simp) o q⟩
  item := by
    intro X hP hw hK hc i pins s σ H E I hf st hg
    subst hP hw hK
    obtain ⟨hz, hTI, ⟨x0, y0, hTO⟩, h1, h2⟩ := st
    obtain ⟨xs, ys, x, y, hqx, hqy, hx, hy⟩ := hg
    obtain ⟨its, rv, p, _⟩ := I.tuple hqx
    obtain ⟨its2, rv2, p2, _⟩ := I.list hqy
    obtain ⟨u, hu, ru⟩ := rv.get hx
    obtain ⟨u2, hu2, ru2⟩ := rv2.get hy
    have l1 := (List.getElem?_eq_some_iff.mp hu).1
    have l2 := (List.getElem?_eq_some_iff.mp hu2).1
    have hh := I.ok.hd hc
    have lt : ∀ c ∈ [z, TI, TO, i1, i2], c < s.heap.objs.size := fun c hcm => by
      obtain ⟨o1, e1, _⟩ := h1
      obtain ⟨o2, e2, _⟩ := h2
      rcases (by simpa using hcm : c = z ∨ c = TI ∨ c = TO ∨ c = i1 ∨ c = i2) with q | q | q | q | q
      · subst q; exact Heap.lt_size hz
      · subst q; exact Heap.lt_size hTI
      · subst q; exact Heap.lt_size hTO
      · subst q; exact Heap.lt_size e1
      · subst q; exact Heap.lt_size e2
    have G := GoesN.zip2 (elts := elts) (x1 := kk) (pos := tpos) S (Draws.tuple (prog := X.prog) (w := X.w) (A := X.A.in1) hh i1 a ha its.toArray) (Draws.list (prog := X.prog) (w := X.w) (A := X.A.in1) hh i2 b hb its2.toArray)
    refine wpAny_mono (G.goes i s _ E (by simp only [List.size_toArray]; omega) ⟨hz, hTI, ⟨_, _, hTO⟩, ⟨h1, p⟩, h2, p2.isList⟩ fun v h' tk hY st' hk htk => ?_) (fun r s1 ⟨v, hv, q⟩ => ⟨v, hv, q⟩) fun _ _ y => y
    obtain ⟨T, x1, y1, rfl, hT, hx1, hy1, hTt⟩ := hY
    have ex : x1 = u := by
      have q : its[i]? = some x1 := by simpa using hx1
      rw [hu] at q
      exact (Option.some.inj q).symm
    have ey : y1 = u2 := by
      have q : its2[i]? = some y1 := by simpa using hy1
      rw [hu2] at q
      exact (Option.some.inj q).symm
    subst ex ey
    have hTn : H T = none := I.hok.fresh hT
    have new : ObjOk X.prog X.w (upd H T (.tup [x, y])) h' T (.tup [x, y]) := ⟨by show 2 ≤ sizeLine; decide, [x1, y1], .cons ru (.cons ru2 .nil), hTt⟩
    have J : Inv X pins σ (upd H T (.tup [x, y])) { s with heap := h', toks := tk } :=
      I.turnedNew (ch := [z, TI, TO, i1, i2]) (fun c o hcn e => hk c o (fun q => hcn (by rcases (by simpa using q : c = z ∨ c = TO ∨ c = i1 ∨ c = i2) with q | q | q | q <;> simp [q])) e) hf hT new
    refine ⟨.ref T, _, J, rfl, ⟨T, x, y, rfl, hTn, rfl, fun l hl => by rw [I.tuple_inj hl hqx]; exact hx, fun l hl => by rw [I.list_inj hl hqy]; exact hy⟩, ⟨st'.1, st'.2.1, st'.2.2.1, st'.2.2.2.1.1, st'.2.2.2.2.1⟩, fun c hcm => ?_⟩
    rw [upd_ne (Nat.ne_of_lt (Nat.lt_of_lt_of_le (lt c hcm) hT))]
    exact (hf c hcm).1
  done := by
    intro X hP hw hK hc i pins s σ H E I hf st hg
    subst hP hw hK
    obtain ⟨hz, hTI, hTO, h1, h2⟩ := st
    obtain ⟨xs, ys, hqx, hqy, he⟩ := hg
    obtain ⟨its, rv, p, _⟩ := I.tuple hqx
    obtain ⟨its2, rv2, p2, _⟩ := I.list hqy
    have hh := I.ok.hd hc
    have l1 := rv.length
    have l2 := rv2.length
    have G := GoesN.zip2 (elts := elts) (x1 := kk) (pos := tpos) S (Draws.tuple (prog := X.prog) (w := X.w) (A := X.A.in1) hh i1 a ha its.toArray) (Draws.list (prog := X.prog) (w := X.w) (A := X.A.in1) hh i2 b hb its2.toArray)
    have en : min its.toArray.size its2.toArray.size = i := by simp only [List.size_toArray]; omega
    rw [en] at G
    exact G.stops s _ E ⟨hz, hTI, hTO, ⟨h1, p⟩, h2, p2.isList⟩ fun h' tk hk _ => I.turnedL (ch := [z, TI, TO, i1, i2]) (fun c o hcn e => hk c o (fun q => hcn (by rcases (by simpa using q : c = z ∨ c = TO ∨ c = i1 ∨ c = i2) with q | q | q | q <;> simp [q])) e) hf
  self := fun A i s Q E st h => wpAny_pyIter_zip st.1 h
def iZipM (K : PySem.W.Frag) (ta : TA) : TI := fun σ H R => ta σ H fun vs H1 => ∃ a b xs ys, vs = [.ref a, .ref b] ∧ SqT K H1 a xs ∧ SqL K H1 b ys ∧ R (ItzM K a b) H1
theorem pi_zipM {X : Cx} {e e2 : Expr} {ta : TA} {p pos tpos : Pos} {elts : List Expr} {kk : Nat} (hg : Gl X "zip") (hm : X.mg "zip" = none) (ha : PA X [e, e2] ta)
    (hs : starEach [e, e2] X.env = (false, eval e X.env) :: starEach [e2] X.env := by rfl) (hpl : (backTo pos (starEach [e2] X.env)).any (·.1) = false := by rfl) :
    PI X (.Tuple elts kk tpos) (.Call (.Name "zip" p) [e, e2] [] pos) (iZipM X.K ta) := by
  refine ⟨fun pins s σ H R I h => ?_⟩
  refine Call_ (ld_blt I hg hm PyProof.Rows.boot_zip (PyProof.Rows.callWith_type1 (thn (ha.run pos pins s σ H _ I h) fun us s1 ⟨vs, H1, I1, r1, q1⟩ => ?_) hs hpl))
  obtain ⟨a, b, xs, ys, rfl, hqx, hqy, q⟩ := q1
  cases r1 with
  | cons r rr =>
    cases rr with
    | cons r' rr =>
      cases rr
      cases r
      cases r'
      obtain ⟨its, rv, p1, _⟩ := I1.tuple hqx
      obtain ⟨its2, rv2, p2, _⟩ := I1.list hqy
      have la : a < s1.heap.objs.size := by
        obtain ⟨o, e, _⟩ := id p1
        exact Heap.lt_size e
      have lb : b < s1.heap.objs.size := p2.lt
      refine zip_begins2 (begins_tuple a its.toArray) (begins_list b its2.toArray) p1 p2.isList fun h' hz hTI hTO h1 h2 hsz hk => wpAny_pyIter_zip hz ?_
      have five : ∀ c, c ∈ [s1.heap.objs.size + 4, s1.heap.objs.size + 2, s1.heap.objs.size + 3, s1.heap.objs.size, s1.heap.objs.size + 1] → FpOk X pins H1 c := fun c hcm => by
        have hle : s1.heap.objs.size ≤ c := by
          rcases (by simpa using hcm : c = s1.heap.objs.size + 4 ∨ c = s1.heap.objs.size + 2 ∨ c = s1.heap.objs.size + 3 ∨ c = s1.heap.objs.size ∨ c = s1.heap.objs.size + 1) with z | z | z | z | z
          all_goals (rw [z]; first | exact Nat.le_refl _ | exact Nat.le_add_right _ _)
        exact I1.fpOk hle (I1.hok.fresh hle)
      have S : ZipSep2 (s1.heap.objs.size + 4) (s1.heap.objs.size + 2) (s1.heap.objs.size + 3) s1.heap.objs.size (s1.heap.objs.size + 1) [s1.heap.objs.size, a] [s1.heap.objs.size + 1, b] :=
        zip_sep2 (fp1 := [a]) (fp2 := [b]) (fun c hc => by obtain rfl := List.mem_singleton.mp hc; exact la) (fun c hc => by obtain rfl := List.mem_singleton.mp hc; exact lb)
      exact ⟨s1.heap.objs.size + 4, [s1.heap.objs.size + 4, s1.heap.objs.size + 2, s1.heap.objs.size + 3, s1.heap.objs.size, s1.heap.objs.size + 1], _, _, H1, rfl, I1.kept (t' := s1.toks) hk,
        turn_zipM S (Nat.ne_of_lt la) (Nat.ne_of_lt (Nat.lt_succ_of_lt lb)), ⟨hz, hTI, ⟨_, _, hTO⟩, ⟨_, h1, rfl, rfl⟩, ⟨_, h2, rfl, rfl⟩⟩, five, q⟩

/-! ### a method called with keywords -/
section
variable {X : Cx} {CX : CXT} {k : Nat} {f C : Addr} {fd : FuncData} {ps ks : List Str} {sp : Sp} {E : XK} {m : Str} {apos pos : Pos} {o e : Expr} {es : List Expr} {kws : List Keyword} {to : TE} {t tk : TA} {g : List Value → List Value → List Value} {gV : List V → List V → List V}
/-- o.m(.., k = v): gV orders the object, the positional and the keyword arguments by the parameters -/
def tMethK (C : Addr) (m : Str) (sp : Sp) (gV : List V → List V → List V) (E : XK) (to : TE) (t tk : TA) : TE := fun σ H Q => to σ H fun x H1 => ∃ a dx fs, x = .ref a ∧ H1 a = some (.ins C dx fs) ∧ fs.lookup m = none ∧
  t σ H1 fun vs H2 => tk σ H2 fun zs H3 => sp (gV (x :: vs) zs) H3 Q E
theorem pe_methK {pl : Sem Bool} (c : Cls X.K C) (hm : Meth X.K C m f) (F : FnOk X.prog X.w X.K X.mg X.base CX k f fd ps sp) (hr : Room k X.A) (hb : KBinds X.K fd ps ks g gV) (hx : Passes CX X E) (ho : PE X o to) (ha : PA X (e :: es) t) (hkw : PK X kws tk)
    (hall : (backToKw pos (keywordEach kws X.env)).all (·.1.isSome) = true := by rfl) (hks : (backToKw pos (keywordEach kws X.env)).filterMap (·.1) = ks := by rfl)
    (he : starEach (e :: es) X.env = (false, eval e X.env) :: starEach es X.env := by rfl)
    (hpl : ((backTo pos (starEach (e :: es) X.env)).any (·.1) || (backToKw pos (keywordEach kws X.env)).any (·.1.isNone)) = false := by rfl)
    (ht : eval (.Call (.Attribute o m apos) (e :: es) kws pos) X.env = (do
      let ov ← eval o X.env
      standAt apos.atName
      let (fx, first) ← holding [ov] (getMethod ov m pl)
      callWith pos fx first (backTo pos (starEach (e :: es) X.env)) (backToKw pos (keywordEach kws X.env))) := by rfl) :
    PE X (.Call (.Attribute o m apos) (e :: es) kws pos) (tMethK C m sp gV E to t tk) := by
  refine ⟨fun pins s σ H Q I h => PySem.W.methodCall_KW (pl := pl) (thn (ho.run pins s σ H _ I h) fun u s1 ⟨x, H1, I1, rx, a, dx, fs, ex, ea, l, q⟩ => ?_) ht⟩
  subst ex
  obtain rfl : u = Value.ref a := rx
  refine getmeth_ok I1 ea c hm l (PySem.W.callWith_KW (first := [.ref a]) (h₀ := X.base) I.ok.mod.kin hm.kp hall (thn (ha.run pos pins s1 σ H1 _ I1 q) fun us s2 ⟨vs, H2, I2, r, q2⟩ => ?_) hpl he)
  refine thn (hkw.run pos pins s2 σ H2 _ I2 q2) fun ws s3 ⟨zs, H3, I3, rz, q3⟩ => ⟨I3.kIn, ?_⟩
  rw [hks]
  exact run_fnk (us := .ref a :: us) (vs := .ref a :: vs) F hr hb hx I3 (.cons rfl r) rz q3
theorem pe_methK0 {pl : Sem Bool} (c : Cls X.K C) (hm : Meth X.K C m f) (F : FnOk X.prog X.w X.K X.mg X.base CX k f fd ps sp) (hr : Room k X.A) (hb : KBinds X.K fd ps ks g gV) (hx : Passes CX X E) (ho : PE X o to) (hkw : PK X kws tk)
    (hall : (backToKw pos (keywordEach kws X.env)).all (·.1.isSome) = true := by rfl) (hks : (backToKw pos (keywordEach kws X.env)).filterMap (·.1) = ks := by rfl)
    (hpl : ((backTo pos (starEach [] X.env)).any (·.1) || (backToKw pos (keywordEach kws X.env)).any (·.1.isNone)) = false := by rfl)
    (ht : eval (.Call (.Attribute o m apos) [] kws pos) X.env = (do
      let ov ← eval o X.env
      standAt apos.atName
      let (fx, first) ← holding [ov] (getMethod ov m pl)
      callWith pos fx first (backTo pos (starEach [] X.env)) (backToKw pos (keywordEach kws X.env))) := by rfl) :
    PE X (.Call (.Attribute o m apos) [] kws pos) (tMethK C m sp gV E to tNil tk) := by
  refine ⟨fun pins s σ H Q I h => PySem.W.methodCall_KW (pl := pl) (thn (ho.run pins s σ H _ I h) fun u s1 ⟨x, H1, I1, rx, a, dx, fs, ex, ea, l, q⟩ => ?_) ht⟩
  subst ex
  obtain rfl : u = Value.ref a := rx
  refine getmeth_ok I1 ea c hm l (PySem.W.callWith_KW0 (first := [.ref a]) (h₀ := X.base) I.ok.mod.kin hm.kp hall (thn (hkw.run pos pins s1 σ H1 _ I1 q) fun ws s3 ⟨zs, H3, I3, rz, q3⟩ => ⟨I3.kIn, ?_⟩) hpl)
  rw [hks]
  exact run_fnk (us := [.ref a]) (vs := [.ref a]) F hr hb hx I3 (.cons rfl .nil) rz q3
/-- the same where what is raised is wished for at the slots (in a try) -/
def tMethKS (C : Addr) (m : Str) (sp : Sp) (gV : List V → List V → List V) (E : St → XK) (to : TE) (t tk : TA) : TE := fun σ H Q => to σ H fun x H1 => ∃ a dx fs, x = .ref a ∧ H1 a = some (.ins C dx fs) ∧ fs.lookup m = none ∧
  t σ H1 fun vs H2 => tk σ H2 fun zs H3 => sp (gV (x :: vs) zs) H3 Q (E σ)
theorem pe_methKS {E : St → XK} {pl : Sem Bool} (c : Cls X.K C) (hm : Meth X.K C m f) (F : FnOk X.prog X.w X.K X.mg X.base CX k f fd ps sp) (hr : Room k X.A) (hb : KBinds X.K fd ps ks g gV) (hx : ∀ σ, PassesAt CX X σ (E σ)) (ho : PE X o to) (ha : PA X (e :: es) t) (hkw : PK X kws tk)
    (hall : (backToKw pos (keywordEach kws X.env)).all (·.1.isSome) = true := by rfl) (hks : (backToKw pos (keywordEach kws X.env)).filterMap (·.1) = ks := by rfl)
    (he : starEach (e :: es) X.env = (false, eval e X.env) :: starEach es X.env := by rfl)
    (hpl : ((backTo pos (starEach (e :: es) X.env)).any (·.1) || (backToKw pos (keywordEach kws X.env)).any (·.1.isNone)) = false := by rfl)
    (ht : eval (.Call (.Attribute o m apos) (e :: es) kws pos) X.env = (do
      let ov ← eval o X.env
      standAt apos.atName
      let (fx, first) ← holding [ov] (getMethod ov m pl)
      callWith pos fx first (backTo pos (starEach (e :: es) X.env)) (backToKw pos (keywordEach kws X.env))) := by rfl) :
    PE X (.Call (.Attribute o m apos) (e :: es) kws pos) (tMethKS C m sp gV E to t tk) := by
  refine ⟨fun pins s σ H Q I h => PySem.W.methodCall_KW (pl := pl) (thn (ho.run pins s σ H _ I h) fun u s1 ⟨x, H1, I1, rx, a, dx, fs, ex, ea, l, q⟩ => ?_) ht⟩
  subst ex
  obtain rfl : u = Value.ref a := rx
  refine getmeth_ok I1 ea c hm l (PySem.W.callWith_KW (first := [.ref a]) (h₀ := X.base) I.ok.mod.kin hm.kp hall (thn (ha.run pos pins s1 σ H1 _ I1 q) fun us s2 ⟨vs, H2, I2, r, q2⟩ => ?_) hpl he)
  refine thn (hkw.run pos pins s2 σ H2 _ I2 q2) fun ws s3 ⟨zs, H3, I3, rz, q3⟩ => ⟨I3.kIn, ?_⟩
  rw [hks]
  have r2 := hb.rel (vs := .ref a :: vs) (us := .ref a :: us) (.cons rfl r) rz
  have hl : (g (.ref a :: us) ws).length = ps.length := by rw [← r2.length]; exact F.len _ _ _ _ q3
  refine wpAny_call (codeAny_mono (F.run X.A X.stack s3 H3 ⟨.ref a :: us, ks.zip ws⟩ _ _ Q (E σ) hr I3.env0 (hb.to s3 (.ref a :: us) ws I3.kIn hl) r2 q3) fun r' s' hq => ?_)
  match r', hq with
  | .error e, hq => exact hx σ pins H3 s3 e s' I3 hq
  | .ok (.ret u), hq => exact I3.after hq
  | .ok .next, hq => exact False.elim hq
  | .ok .brk, hq => exact False.elim hq
  | .ok .cont, hq => exact False.elim hq
end
end L2
end

section
set_option autoImplicit false
/-! k77, plain Lean: values, their octets, what octets tell. -/
namespace K77
open PySem

inductive D where
  | non | bl (b : Bool) | int (i : Int) | str (s : Str) | tup (xs : List D)

/-- the signs, by their codes -/
def sigs : List Nat := [32, 33, 34, 35, 36, 38, 39, 40, 41, 42, 43, 44, 45, 46, 47, 48, 49, 50, 51, 52, 53, 54, 55, 56, 57, 58, 59, 60, 61, 62, 63, 64, 65, 66, 67, 68, 69, 70, 71, 72, 73, 74, 75, 76, 77, 78, 79, 80, 81, 82, 83, 84, 85, 86, 87, 88, 89, 90, 91, 92, 93, 94, 95, 96, 97, 98, 99, 100, 101, 102, 103, 104, 105, 106, 107, 108, 109, 110, 111, 112, 113, 114, 115, 116, 117, 118, 119, 120, 121, 122, 123, 124, 125, 126]
theorem sigs_len : sigs.length = 94 := by decide
/-- the place of a sign -/
def idx (c : Nat) : Nat := sigs.findIdx (· == c)
theorem idx_lt {c : Nat} (h : c ∈ sigs) : idx c < 94 := by
  have := List.findIdx_lt_length_of_exists (p := (· == c)) (xs := sigs) ⟨c, h, by simp⟩
  rw [sigs_len] at this
  exact this
theorem idx_get {c : Nat} (h : c ∈ sigs) : sigs[idx c]? = some c := by
  have hlt := List.findIdx_lt_length_of_exists (p := (· == c)) (xs := sigs) ⟨c, h, by simp⟩
  have e := List.findIdx_getElem (w := hlt)
  have e2 : sigs[sigs.findIdx (· == c)] = c := by simpa only [beq_iff_eq] using e
  show sigs[sigs.findIdx (· == c)]? = some c
  rw [List.getElem?_eq_getElem hlt]
  exact congrArg some e2

/-! ### numbers by sevens -/
def sev (n : Nat) : List Int := if h : n < 128 then [(n : Int)] else ((n % 128 + 128 : Nat) : Int) :: sev (n / 128)
termination_by n
decreasing_by omega
theorem sev_lo {n : Nat} (h : n < 128) : sev n = [(n : Int)] := by rw [sev, dif_pos h]
theorem sev_hi {n : Nat} (h : ¬ n < 128) : sev n = ((n % 128 + 128 : Nat) : Int) :: sev (n / 128) := by rw [sev, dif_neg h]

/-! ### octets of a value -/
mutual
def octs : D → List Int
  | .non => [0]
  | .bl b => [if b then 2 else 1]
  | .int i => (if 0 ≤ i then 3 else 4) :: sev i.natAbs
  | .str s => 5 :: (sev s.cps.toList.length ++ s.cps.toList.map fun c => ((idx c : Nat) : Int))
  | .tup xs => 6 :: (sev xs.length ++ octsL xs)
def octsL : List D → List Int
  | [] => []
  | x :: xs => octs x ++ octsL xs
end

/-! ### reading -/
/-- a number by sevens from a rest: the number or none, and where reading stands -/
def sevR : List Int → Int → Int → Nat → Option Int × Nat
  | [], _, _, k => (none, k)
  | o :: r, tot, tm, k => if 127 < o then sevR r (tot + (o - 128) * tm) (tm * 128) (k + 1) else if o = 0 ∧ 1 < tm then (none, k + 1) else (some (tot + o * tm), k + 1)
def num (o : List Int) (spot : Nat) : Option Int × Nat := sevR (o.drop spot) 0 1 spot
/-- n signs -/
def txtR : Nat → List Int → Nat → List Nat → Option (List Nat) × Nat
  | 0, _, k, acc => (some acc, k)
  | _ + 1, [], k, _ => (none, k)
  | n + 1, c :: r, k, acc => if 93 < c then (none, k + 1) else txtR n r (k + 1) (acc ++ [sigs.getD c.toNat 0])
/-- a value that is no tuple, its tag read -/
def part (o : List Int) (tag : Int) (spot : Nat) : Option D × Nat :=
  if tag = 0 then (some .non, spot) else if tag = 1 then (some (.bl false), spot) else if tag = 2 then (some (.bl true), spot)
  else if tag = 3 ∨ tag = 4 then
    match num o spot with
    | (none, s) => (none, s)
    | (some n, s) => if tag = 4 ∧ n = 0 then (none, s) else (some (.int (if tag = 3 then n else 0 - n)), s)
  else if tag ≠ 5 then (none, spot)
  else match num o spot with
    | (none, s) => (none, s)
    | (some n, s) => match txtR n.toNat (o.drop s) s [] with
      | (none, s') => (none, s')
      | (some t, s') => (some (.str ⟨t.toArray⟩), s')
/-- open rows: those below (the nearest first; how many parts each wants behind its open one), the top, where reading stands -/
structure Stt where
  below : List (List D × Nat)
  xs : List D
  m : Nat
  spot : Nat
inductive Res where
  | bad (at_ : Nat) | ok (d : D)
def step (o : List Int) (s : Stt) : Stt ⊕ Res :=
  if s.m = 0 then
    match s.below with
    | [] => .inr (if s.spot < o.length then .bad s.spot else .ok (s.xs.headD .non))
    | (ys, k) :: b => .inl ⟨b, ys ++ [.tup s.xs], k, s.spot⟩
  else match o[s.spot]? with
    | none => .inr (.bad s.spot)
    | some tag =>
      if tag = 6 then
        match num o (s.spot + 1) with
        | (none, k) => .inr (.bad k)
        | (some n, k) => if (o.length : Int) < n then .inr (.bad k) else .inl ⟨(s.xs, s.m - 1) :: s.below, [], n.toNat, k⟩
      else match part o tag (s.spot + 1) with
        | (none, k) => .inr (.bad k)
        | (some d, k) => .inl ⟨s.below, s.xs ++ [d], s.m - 1, k⟩
def run (o : List Int) : Nat → Stt → Res
  | 0, _ => .bad 0
  | k + 1, s => match step o s with
    | .inl s' => run o k s'
    | .inr r => r
def mu (o : List Int) (s : Stt) : Nat := 2 * (o.length - s.spot) + s.below.length
def begun : Stt := ⟨[], [], 1, 0⟩
/-- what octets tell -/
def read (o : List Int) : Res := run o (2 * o.length + 3) begun

theorem sevR_spot : ∀ (l : List Int) (tot tm : Int) (k : Nat), k ≤ (sevR l tot tm k).2 ∧ (sevR l tot tm k).2 ≤ k + l.length ∧ ((sevR l tot tm k).1 ≠ none → k < (sevR l tot tm k).2)
  | [], _, _, k => by simp [sevR]
  | o :: r, tot, tm, k => by
    unfold sevR
    split
    · have h := sevR_spot r (tot + (o - 128) * tm) (tm * 128) (k + 1)
      refine ⟨by omega, by simp only [List.length_cons]; omega, fun _ => by omega⟩
    · split
      · simp only [List.length_cons]
        exact ⟨by omega, by omega, fun h => absurd rfl h⟩
      · simp only [List.length_cons]
        exact ⟨by omega, by omega, fun _ => by omega⟩
theorem num_spot {o : List Int} {spot : Nat} (h : spot ≤ o.length) : spot ≤ (num o spot).2 ∧ (num o spot).2 ≤ o.length := by
  have h1 := sevR_spot (o.drop spot) 0 1 spot
  rw [List.length_drop] at h1
  unfold num
  omega
theorem txtR_spot : ∀ (n : Nat) (l : List Int) (k : Nat) (acc : List Nat), k ≤ (txtR n l k acc).2 ∧ (txtR n l k acc).2 ≤ k + l.length
  | 0, _, k, _ => by simp [txtR]
  | _ + 1, [], k, _ => by simp [txtR]
  | n + 1, c :: r, k, acc => by
    unfold txtR
    split
    · simp only [List.length_cons]; omega
    · have h := txtR_spot n r (k + 1) (acc ++ [sigs.getD c.toNat 0])
      simp only [List.length_cons]; omega
theorem part_spot {o : List Int} {tag : Int} {spot : Nat} (h : spot ≤ o.length) : spot ≤ (part o tag spot).2 ∧ (part o tag spot).2 ≤ o.length := by
  have h1 := num_spot h
  unfold part
  generalize num o spot = q at h1
  obtain ⟨v, s⟩ := q
  have h2 : spot ≤ s ∧ s ≤ o.length := h1
  by_cases a : tag = 0
  · rw [if_pos a]; exact ⟨Nat.le_refl _, h⟩
  rw [if_neg a]
  by_cases b : tag = 1
  · rw [if_pos b]; exact ⟨Nat.le_refl _, h⟩
  rw [if_neg b]
  by_cases c : tag = 2
  · rw [if_pos c]; exact ⟨Nat.le_refl _, h⟩
  rw [if_neg c]
  by_cases d : tag = 3 ∨ tag = 4
  · rw [if_pos d]
    cases v with
    | none => exact h2
    | some n =>
      show spot ≤ (if tag = 4 ∧ n = 0 then ((none : Option D), s) else (some (D.int (if tag = 3 then n else 0 - n)), s)).2 ∧ (if tag = 4 ∧ n = 0 then ((none : Option D), s) else (some (D.int (if tag = 3 then n else 0 - n)), s)).2 ≤ o.length
      split <;> exact h2
  rw [if_neg d]
  by_cases e : tag ≠ 5
  · rw [if_pos e]; exact ⟨Nat.le_refl _, h⟩
  rw [if_neg e]
  cases v with
  | none => exact h2
  | some n =>
    have h3 := txtR_spot n.toNat (o.drop s) s []
    rw [List.length_drop] at h3
    show spot ≤ (match txtR n.toNat (o.drop s) s [] with
      | (none, s') => ((none : Option D), s')
      | (some t, s') => (some (.str ⟨t.toArray⟩), s')).2 ∧ (match txtR n.toNat (o.drop s) s [] with
      | (none, s') => ((none : Option D), s')
      | (some t, s') => (some (.str ⟨t.toArray⟩), s')).2 ≤ o.length
    generalize txtR n.toNat (o.drop s) s [] = r at h3
    obtain ⟨t, s'⟩ := r
    have h4 : s ≤ s' ∧ s' ≤ s + (o.length - s) := h3
    cases t with
    | none => show spot ≤ s' ∧ s' ≤ o.length; omega
    | some t => show spot ≤ s' ∧ s' ≤ o.length; omega

theorem step_mu {o : List Int} {s s' : Stt} (hs : s.spot ≤ o.length) (h : step o s = .inl s') : mu o s' < mu o s ∧ s'.spot ≤ o.length := by
  obtain ⟨b, xs, m, k⟩ := s
  unfold step at h
  simp only at h hs
  by_cases hm : m = 0
  · rw [if_pos hm] at h
    cases b with
    | nil => cases h
    | cons p b =>
      obtain ⟨ys, j⟩ := p
      injection h with h
      subst h
      exact ⟨by simp [mu], hs⟩
  · rw [if_neg hm] at h
    cases e : o[k]? with
    | none => rw [e] at h; cases h
    | some tag =>
      rw [e] at h
      have hk : k < o.length := (List.getElem?_eq_some_iff.mp e).1
      simp only at h
      by_cases ht : tag = 6
      · rw [if_pos ht] at h
        have h1 := num_spot (o := o) (spot := k + 1) hk
        generalize num o (k + 1) = q at h h1
        obtain ⟨v, j⟩ := q
        simp only at h1
        cases v with
        | none => cases h
        | some n =>
          simp only at h
          by_cases hn : (o.length : Int) < n
          · rw [if_pos hn] at h; cases h
          · rw [if_neg hn] at h
            injection h with h
            subst h
            exact ⟨by simp only [mu, List.length_cons]; omega, h1.2⟩
      · rw [if_neg ht] at h
        have h1 := part_spot (o := o) (tag := tag) (spot := k + 1) hk
        generalize part o tag (k + 1) = q at h h1
        obtain ⟨v, j⟩ := q
        simp only at h1
        cases v with
        | none => cases h
        | some n =>
          simp only at h
          injection h with h
          subst h
          exact ⟨by simp only [mu]; omega, h1.2⟩
/-- enough turns are enough -/
theorem run_any {o : List Int} : ∀ (k j : Nat) (s : Stt), s.spot ≤ o.length → mu o s < k → mu o s < j → run o k s = run o j s
  | 0, _, _, _, h, _ => absurd h (Nat.not_lt_zero _)
  | _ + 1, 0, _, _, _, h => absurd h (Nat.not_lt_zero _)
  | k + 1, j + 1, s, hs, h1, h2 => by
    unfold run
    cases e : step o s with
    | inr r => rfl
    | inl s' =>
      have h := step_mu hs e
      exact run_any k j s' h.2 (by omega) (by omega)
def fin (o : List Int) (s : Stt) : Res := run o (mu o s + 1) s
theorem fin_step {o : List Int} {s s' : Stt} (hs : s.spot ≤ o.length) (h : step o s = .inl s') : fin o s = fin o s' := by
  have q := step_mu hs h
  have e : fin o s = run o (mu o s) s' := by
    unfold fin
    rw [run, h]
  rw [e]
  exact run_any _ _ _ q.2 q.1 (Nat.lt_succ_self _)
theorem fin_end {o : List Int} {s : Stt} {r : Res} (h : step o s = .inr r) : fin o s = r := by
  unfold fin
  rw [run, h]
theorem read_fin (o : List Int) : read o = fin o begun := run_any _ _ _ (Nat.zero_le _) (by show 2 * (o.length - 0) + 0 < 2 * o.length + 3; omega) (Nat.lt_succ_self _)

/-! ### there and back -/
mutual
/-- a value that the law draws: its signs are signs, texts, tuples and numbers are small -/
def Good : D → Prop
  | .non => True
  | .bl _ => True
  | .int i => i.natAbs < 128 ^ 6
  | .str s => s.cps.size < 128 ∧ ∀ c ∈ s.cps.toList, c ∈ sigs
  | .tup xs => xs.length < 128 ∧ GoodL xs
def GoodL : List D → Prop
  | [] => True
  | x :: xs => Good x ∧ GoodL xs
end
mutual
theorem octs_pos : ∀ d : D, 1 ≤ (octs d).length
  | .non => by simp [octs]
  | .bl _ => by simp [octs]
  | .int _ => by simp [octs]
  | .str _ => by simp [octs]
  | .tup _ => by simp [octs]
theorem octsL_pos : ∀ l : List D, l.length ≤ (octsL l).length
  | [] => by simp [octsL]
  | x :: xs => by
    have h := octs_pos x
    have h2 := octsL_pos xs
    simp only [octsL, List.length_append, List.length_cons]
    omega
end
theorem sevR_sev : ∀ (n : Nat) (rest : List Int) (tot : Int) (t : Nat) (k : Nat), 1 ≤ t → (n = 0 → t = 1) →
    sevR (sev n ++ rest) tot (t : Int) k = (some (tot + (n : Int) * t), k + (sev n).length)
  | n, rest, tot, t, k, ht, h0 => by
    by_cases h : n < 128
    · rw [sev_lo h]
      show (if 127 < (n : Int) then _ else if (n : Int) = 0 ∧ 1 < (t : Int) then _ else _) = _
      rw [if_neg (by omega), if_neg (by omega)]
      rfl
    · rw [sev_hi h]
      show (if 127 < ((n % 128 + 128 : Nat) : Int) then sevR (sev (n / 128) ++ rest) (tot + (((n % 128 + 128 : Nat) : Int) - 128) * t) ((t : Int) * 128) (k + 1) else _) = _
      rw [if_pos (by omega)]
      have e : (t : Int) * 128 = ((t * 128 : Nat) : Int) := by omega
      rw [e, sevR_sev (n / 128) rest _ (t * 128) (k + 1) (by omega) (by omega)]
      have e1 : (((n % 128 + 128 : Nat) : Int) - 128) = ((n % 128 : Nat) : Int) := by omega
      have e2 : ((t * 128 : Nat) : Int) = 128 * (t : Int) := by omega
      have e3 : (n : Int) = ((n % 128 : Nat) : Int) + 128 * ((n / 128 : Nat) : Int) := by omega
      rw [e1, e2]
      refine Prod.ext (congrArg some ?_) ?_
      · show tot + ((n % 128 : Nat) : Int) * t + ((n / 128 : Nat) : Int) * (128 * t) = tot + (n : Int) * t
        rw [e3, Int.add_mul, ← Int.mul_assoc, Int.mul_comm ((n / 128 : Nat) : Int) 128]
        omega
      · show k + 1 + (sev (n / 128)).length = k + (((n % 128 + 128 : Nat) : Int) :: sev (n / 128)).length
        simp only [List.length_cons]
        omega
termination_by n => n
decreasing_by omega
theorem num_sev {o pre rest : List Int} {n : Nat} {k : Nat} (e : o = pre ++ (sev n ++ rest)) (hk : k = pre.length) : num o k = (some (n : Int), k + (sev n).length) := by
  unfold num
  rw [e, hk, List.drop_left]
  have h := sevR_sev n rest 0 1 pre.length (Nat.le_refl _) (fun _ => rfl)
  have e1 : ((1 : Nat) : Int) = 1 := rfl
  rw [e1] at h
  rw [h]
  simp
theorem txtR_back : ∀ (cs : List Nat) (rest : List Int) (k : Nat) (acc : List Nat), (∀ c ∈ cs, c ∈ sigs) →
    txtR cs.length ((cs.map fun c => ((idx c : Nat) : Int)) ++ rest) k acc = (some (acc ++ cs), k + cs.length)
  | [], _, k, acc, _ => by simp [txtR]
  | c :: cs, rest, k, acc, h => by
    have hc := h c List.mem_cons_self
    show (if 93 < ((idx c : Nat) : Int) then _ else txtR cs.length ((cs.map fun c => ((idx c : Nat) : Int)) ++ rest) (k + 1) (acc ++ [sigs.getD ((idx c : Nat) : Int).toNat 0])) = _
    have h1 := idx_lt hc
    rw [if_neg (by omega)]
    have e : sigs.getD ((idx c : Nat) : Int).toNat 0 = c := by
      rw [Int.toNat_natCast, List.getD_eq_getElem?_getD, idx_get hc]
      rfl
    rw [e, txtR_back cs rest (k + 1) (acc ++ [c]) fun x hx => h x (List.mem_cons_of_mem _ hx)]
    simp
    omega
mutual
theorem fin_octs : ∀ (d : D) (pre post : List Int) (b : List (List D × Nat)) (xs : List D) (m : Nat), Good d →
    fin (pre ++ (octs d ++ post)) ⟨b, xs, m + 1, pre.length⟩ = fin (pre ++ (octs d ++ post)) ⟨b, xs ++ [d], m, pre.length + (octs d).length⟩
  | d, pre, post, b, xs, m, g => by
    have hlen : pre.length < (pre ++ (octs d ++ post)).length := by
      have := octs_pos d
      simp only [List.length_append]
      omega
    generalize ho : pre ++ (octs d ++ post) = o at hlen
    have hat : ∀ t r, octs d = t :: r → o[pre.length]? = some t := fun t r e => by
      rw [← ho, e]; simp
    cases d with
    | non =>
      refine fin_step (Nat.le_of_lt hlen) ?_
      unfold step
      simp only [hat 0 [] rfl]
      rfl
    | bl v =>
      refine fin_step (Nat.le_of_lt hlen) ?_
      unfold step
      cases v with
      | false => simp only [hat 1 [] rfl]; rfl
      | true => simp only [hat 2 [] rfl]; rfl
    | int i =>
      refine fin_step (Nat.le_of_lt hlen) ?_
      have e1 : o = (pre ++ [(if 0 ≤ i then (3 : Int) else 4)]) ++ (sev i.natAbs ++ post) := by
        rw [← ho]; simp [octs]
      have e2 := num_sev (k := pre.length + 1) e1 (by simp)
      unfold step
      simp only [hat (if 0 ≤ i then (3 : Int) else 4) (sev i.natAbs) (by simp [octs])]
      rw [if_neg (by omega : ¬ m + 1 = 0)]
      by_cases hi : 0 ≤ i
      · have e3 : ((i.natAbs : Nat) : Int) = i := by omega
        rw [if_pos hi, if_neg (by decide)]
        have e4 : part o 3 (pre.length + 1) = (some (.int i), pre.length + 1 + (sev i.natAbs).length) := by
          unfold part
          rw [e2, e3]
          rfl
        rw [e4]
        simp only [octs, List.length_cons]
        congr 2
        omega
      · have e3 : ((i.natAbs : Nat) : Int) = - i := by omega
        rw [if_neg hi, if_neg (by decide)]
        have e4 : part o 4 (pre.length + 1) = (some (.int i), pre.length + 1 + (sev i.natAbs).length) := by
          unfold part
          rw [e2, e3]
          show (if (4 : Int) = 4 ∧ - i = 0 then ((none : Option D), _) else (some (D.int (0 - - i)), _)) = _
          rw [if_neg (by omega)]
          have e5 : 0 - - i = i := by omega
          rw [e5]
        rw [e4]
        simp only [octs, List.length_cons]
        congr 2
        omega
    | str s =>
      refine fin_step (Nat.le_of_lt hlen) ?_
      have e1 : o = (pre ++ [(5 : Int)]) ++ (sev s.cps.toList.length ++ ((s.cps.toList.map fun c => ((idx c : Nat) : Int)) ++ post)) := by
        rw [← ho]; simp [octs]
      have e2 := num_sev (k := pre.length + 1) e1 (by simp)
      unfold step
      simp only [hat 5 (sev s.cps.toList.length ++ s.cps.toList.map fun c => ((idx c : Nat) : Int)) (by simp [octs])]
      rw [if_neg (by omega : ¬ m + 1 = 0), if_neg (by decide)]
      have e3 : o.drop (pre.length + 1 + (sev s.cps.toList.length).length) = (s.cps.toList.map fun c => ((idx c : Nat) : Int)) ++ post := by
        rw [e1, ← List.append_assoc]
        exact List.drop_left' (by simp only [List.length_append, List.length_cons, List.length_nil])
      have e4 : part o 5 (pre.length + 1) = (some (.str s), pre.length + 1 + (sev s.cps.toList.length).length + s.cps.toList.length) := by
        unfold part
        rw [e2]
        show (match txtR (((s.cps.toList.length : Nat) : Int)).toNat (o.drop (pre.length + 1 + (sev s.cps.toList.length).length)) (pre.length + 1 + (sev s.cps.toList.length).length) [] with
          | (none, s') => ((none : Option D), s')
          | (some t, s') => (some (.str ⟨t.toArray⟩), s')) = _
        rw [e3, Int.toNat_natCast, txtR_back _ _ _ _ g.2]
        simp
      rw [e4]
      simp only [octs, List.length_cons, List.length_append, List.length_map]
      congr 2
      omega
    | tup ys =>
      have e1 : o = (pre ++ [(6 : Int)]) ++ (sev ys.length ++ (octsL ys ++ post)) := by
        rw [← ho]; simp [octs]
      have e2 := num_sev (k := pre.length + 1) e1 (by simp)
      have hl : o.length = pre.length + 1 + (sev ys.length).length + (octsL ys).length + post.length := by
        rw [e1]; simp only [List.length_append, List.length_cons, List.length_nil]; omega
      have hp := octsL_pos ys
      have s1 : step o ⟨b, xs, m + 1, pre.length⟩ = .inl ⟨(xs, m) :: b, [], ys.length, pre.length + 1 + (sev ys.length).length⟩ := by
        unfold step
        simp only [hat 6 (sev ys.length ++ octsL ys) (by simp [octs])]
        rw [if_neg (by omega : ¬ m + 1 = 0), if_pos trivial, e2]
        show (if (o.length : Int) < ((ys.length : Nat) : Int) then _ else _) = _
        rw [if_neg (by omega)]
        rfl
      rw [fin_step (Nat.le_of_lt hlen) s1]
      have e5 : o = (pre ++ [(6 : Int)] ++ sev ys.length) ++ (octsL ys ++ post) := by rw [e1]; simp
      have e6 : (pre ++ [(6 : Int)] ++ sev ys.length).length = pre.length + 1 + (sev ys.length).length := by simp; omega
      have s2 := fin_octsL ys (pre ++ [(6 : Int)] ++ sev ys.length) post ((xs, m) :: b) [] g.2
      rw [← e5, e6] at s2
      rw [s2]
      refine fin_step (s' := ⟨b, xs ++ [.tup ys], m, pre.length + (octs (.tup ys)).length⟩) ?_ ?_
      · show pre.length + 1 + (sev ys.length).length + (octsL ys).length ≤ o.length
        omega
      · show (Sum.inl (⟨b, xs ++ [.tup ([] ++ ys)], m, pre.length + 1 + (sev ys.length).length + (octsL ys).length⟩ : Stt) : Stt ⊕ Res) = _
        rw [List.nil_append]
        congr 2
        simp only [octs, List.length_cons, List.length_append]
        omega
theorem fin_octsL : ∀ (l : List D) (pre post : List Int) (b : List (List D × Nat)) (xs : List D), GoodL l →
    fin (pre ++ (octsL l ++ post)) ⟨b, xs, l.length, pre.length⟩ = fin (pre ++ (octsL l ++ post)) ⟨b, xs ++ l, 0, pre.length + (octsL l).length⟩
  | [], pre, post, b, xs, _ => by simp [octsL]
  | d :: l, pre, post, b, xs, g => by
    have s1 := fin_octs d pre (octsL l ++ post) b xs l.length g.1
    have s2 := fin_octsL l (pre ++ octs d) post b (xs ++ [d]) g.2
    have e : pre ++ (octsL (d :: l) ++ post) = pre ++ (octs d ++ (octsL l ++ post)) := by simp [octsL]
    have e2 : pre ++ octs d ++ (octsL l ++ post) = pre ++ (octs d ++ (octsL l ++ post)) := by simp
    rw [e, List.length_cons, s1]
    rw [e2, List.length_append] at s2
    rw [s2]
    simp only [octsL, List.length_append, List.append_assoc, List.cons_append, List.nil_append, Nat.add_assoc]
end
theorem read_octs {d : D} (g : Good d) : read (octs d) = .ok d := by
  rw [read_fin]
  have h := fin_octs d [] [] [] [] 0 g
  simp only [List.nil_append, List.append_nil, List.length_nil, Nat.zero_add] at h
  show fin (octs d) ⟨[], [], 1, 0⟩ = _
  rw [h]
  refine fin_end ?_
  unfold step
  rw [if_pos rfl]
  show Sum.inr (if (octs d).length < (octs d).length then Res.bad _ else Res.ok d) = _
  rw [if_neg (Nat.lt_irrefl _)]

/-! ### no number is great: how many octets above 127 stand side by side -/
def r1 : List Int → Nat
  | [] => 0
  | x :: t => if 127 < x then 1 + r1 t else 0
/-- the same with one other among them -/
def r2 : List Int → Nat
  | [] => 0
  | x :: t => if 127 < x then 1 + r2 t else 1 + r1 t
theorem r1_le_r2 : ∀ l : List Int, r1 l ≤ r2 l
  | [] => Nat.le_refl _
  | x :: t => by
    have h := r1_le_r2 t
    unfold r1 r2
    split <;> omega
/-- no value's octets hold more than 6 -/
def Cap (k : Nat) (l : List Int) : Prop := ∀ i, r1 (l.drop i) ≤ k
def Cap2 (k : Nat) (l : List Int) : Prop := ∀ i, r2 (l.drop i) ≤ k
theorem Cap2.cons {k : Nat} {x : Int} {l : List Int} (h : Cap2 k l) (hx : r2 (x :: l) ≤ k) : Cap2 k (x :: l) := fun i => by
  cases i with
  | zero => exact hx
  | succ i => exact h i
def Starts (l : List Int) : Prop := r1 l = 0 ∧ Cap2 6 l
theorem Starts.low {x : Int} {l : List Int} (hx : x < 128) (h : Starts l) : Starts (x :: l) := by
  have e : ¬ (127 : Int) < x := by omega
  refine ⟨by unfold r1; rw [if_neg e], h.2.cons ?_⟩
  unfold r2
  rw [if_neg e, h.1]
  omega
theorem sev_r : ∀ (j n : Nat) (l : List Int), n < 128 ^ (j + 1) → Starts l → r1 (sev n ++ l) ≤ j ∧ r2 (sev n ++ l) ≤ j + 1
  | j, n, l, hn, h => by
    by_cases c : n < 128
    · rw [sev_lo c]
      show r1 ((n : Int) :: l) ≤ j ∧ r2 ((n : Int) :: l) ≤ j + 1
      unfold r1 r2
      rw [if_neg (by omega), if_neg (by omega), h.1]
      omega
    · rw [sev_hi c]
      cases j with
      | zero => simp at hn; omega
      | succ j =>
        have q := sev_r j (n / 128) l (by rw [Nat.pow_succ] at hn; omega) h
        show r1 (((n % 128 + 128 : Nat) : Int) :: (sev (n / 128) ++ l)) ≤ _ ∧ r2 (((n % 128 + 128 : Nat) : Int) :: (sev (n / 128) ++ l)) ≤ _
        unfold r1 r2
        rw [if_pos (by omega), if_pos (by omega)]
        omega
termination_by j => j
theorem sev_cap : ∀ (j n : Nat) (l : List Int), n < 128 ^ (j + 1) → j ≤ 5 → Starts l → Cap2 6 (sev n ++ l)
  | j, n, l, hn, hj, h => by
    have q := sev_r j n l hn h
    by_cases c : n < 128
    · rw [sev_lo c] at q ⊢
      exact h.2.cons (by have := q.2; exact Nat.le_trans this (by omega))
    · rw [sev_hi c] at q ⊢
      cases j with
      | zero => simp at hn; omega
      | succ j =>
        have p := sev_cap j (n / 128) l (by rw [Nat.pow_succ] at hn; omega) (by omega) h
        exact p.cons (Nat.le_trans q.2 (by omega))
termination_by j => j
theorem Starts.num {x : Int} {n : Nat} {l : List Int} (hx : x < 128) (hn : n < 128 ^ 6) (h : Starts l) : Starts (x :: (sev n ++ l)) := by
  have e : ¬ (127 : Int) < x := by omega
  have q := sev_r 5 n l hn h
  refine ⟨by unfold r1; rw [if_neg e], (sev_cap 5 n l hn (Nat.le_refl _) h).cons ?_⟩
  unfold r2
  rw [if_neg e]
  omega
theorem Starts.signs : ∀ (cs : List Nat) {l : List Int}, (∀ c ∈ cs, c ∈ sigs) → Starts l → Starts ((cs.map fun c => ((idx c : Nat) : Int)) ++ l)
  | [], _, _, h => h
  | c :: cs, l, hc, h => by
    have q := idx_lt (hc c List.mem_cons_self)
    exact Starts.low (by show ((idx c : Nat) : Int) < 128; omega) (Starts.signs cs (fun x hx => hc x (List.mem_cons_of_mem _ hx)) h)
mutual
theorem starts_octs : ∀ (d : D) (l : List Int), Good d → Starts l → Starts (octs d ++ l)
  | .non, l, _, h => h.low (by decide)
  | .bl b, l, _, h => by cases b <;> exact h.low (by decide)
  | .int i, l, g, h => by
    show Starts ((if 0 ≤ i then (3 : Int) else 4) :: (sev i.natAbs ++ l))
    split
    · exact h.num (by decide) g
    · exact h.num (by decide) g
  | .str s, l, g, h => by
    show Starts (5 :: ((sev s.cps.toList.length ++ s.cps.toList.map fun c => ((idx c : Nat) : Int)) ++ l))
    rw [List.append_assoc]
    exact (Starts.signs _ g.2 h).num (by decide) (by have := g.1; rw [Array.length_toList]; omega)
  | .tup xs, l, g, h => by
    show Starts (6 :: ((sev xs.length ++ octsL xs) ++ l))
    rw [List.append_assoc]
    exact (starts_octsL xs l g.2 h).num (by decide) (by have := g.1; omega)
theorem starts_octsL : ∀ (xs : List D) (l : List Int), GoodL xs → Starts l → Starts (octsL xs ++ l)
  | [], _, _, h => h
  | x :: xs, l, g, h => by
    show Starts ((octs x ++ octsL xs) ++ l)
    rw [List.append_assoc]
    exact starts_octs x _ g.1 (starts_octsL xs l g.2 h)
end
theorem starts_nil : Starts [] := ⟨rfl, fun i => by simp [r2]⟩
theorem cap2_octs {d : D} (g : Good d) : Cap2 6 (octs d) := by
  have h := starts_octs d [] g starts_nil
  rw [List.append_nil] at h
  exact h.2
theorem Cap2.cap {k : Nat} {l : List Int} (h : Cap2 k l) : Cap k l := fun i => Nat.le_trans (r1_le_r2 _) (h i)
theorem Cap.mono {k j : Nat} {l : List Int} (h : Cap k l) (q : k ≤ j) : Cap j l := fun i => Nat.le_trans (h i) q
theorem r1_prefix : ∀ (a b : List Int), r1 a ≤ r1 (a ++ b)
  | [], _ => Nat.zero_le _
  | x :: a, b => by
    have h := r1_prefix a b
    show (if 127 < x then 1 + r1 a else 0) ≤ (if 127 < x then 1 + r1 (a ++ b) else 0)
    split <;> omega
theorem Cap.take {k : Nat} {l : List Int} (h : Cap k l) (n : Nat) : Cap k (l.take n) := fun i => by
  have q := h i
  have e : l.drop i = (l.take n).drop i ++ (l.drop (max i n)) := by
    by_cases c : i ≤ n
    · rw [List.drop_take, Nat.max_eq_right c]
      have e2 : l.drop n = (l.drop i).drop (n - i) := by rw [List.drop_drop]; congr 1; omega
      rw [e2, List.take_append_drop]
    · rw [Nat.max_eq_left (by omega)]
      have e2 : (l.take n).drop i = [] := List.drop_eq_nil_of_le (by rw [List.length_take]; omega)
      rw [e2, List.nil_append]
  rw [e] at q
  exact Nat.le_trans (r1_prefix _ _) q
theorem Cap.cons {k : Nat} {x : Int} {l : List Int} (h : Cap k l) (hx : r1 (x :: l) ≤ k) : Cap k (x :: l) := fun i => by
  cases i with
  | zero => exact hx
  | succ i => exact h i
theorem r1_low {x : Int} (h : x < 128) (l : List Int) : r1 (x :: l) = 0 := by
  unfold r1
  rw [if_neg (by omega)]
theorem r1_put : ∀ (a : List Int) (x y : Int) (b : List Int), r1 (a ++ y :: b) ≤ r2 (a ++ x :: b)
  | [], x, y, b => by
    show r1 (y :: b) ≤ r2 (x :: b)
    have h := r1_le_r2 b
    unfold r1 r2
    split <;> split <;> omega
  | z :: a, x, y, b => by
    have h := r1_put a x y b
    show (if 127 < z then 1 + r1 (a ++ y :: b) else 0) ≤ (if 127 < z then 1 + r2 (a ++ x :: b) else 1 + r1 (a ++ x :: b))
    split <;> omega
theorem drop_app {a b : List Int} {i : Nat} (h : i ≤ a.length) : (a ++ b).drop i = a.drop i ++ b := by
  rw [List.drop_append_of_le_length h]
theorem Cap2.put {k : Nat} {a b : List Int} {x : Int} (y : Int) (h : Cap2 k (a ++ x :: b)) : Cap k (a ++ y :: b) := fun i => by
  by_cases c : i ≤ a.length
  · have q := h i
    rw [drop_app c] at q ⊢
    exact Nat.le_trans (r1_put _ x y _) q
  · have q := h i
    have e : ∀ z : Int, (a ++ z :: b).drop i = b.drop (i - a.length - 1) := fun z => by
      have e1 : i = a.length + (1 + (i - a.length - 1)) := by omega
      rw [e1, List.drop_append, Nat.add_comm 1]
      simp
    rw [e y]
    rw [e x] at q
    exact Nat.le_trans (r1_le_r2 _) q
theorem r1_ins : ∀ (a : List Int) (b : List Int), r1 (a ++ 128 :: 0 :: b) ≤ 1 + r1 (a ++ b)
  | [], b => by
    show r1 (128 :: 0 :: b) ≤ _
    unfold r1
    rw [if_pos (by decide), r1_low (by decide)]
    omega
  | z :: a, b => by
    have h := r1_ins a b
    show (if 127 < z then 1 + r1 (a ++ 128 :: 0 :: b) else 0) ≤ 1 + (if 127 < z then 1 + r1 (a ++ b) else 0)
    split <;> omega
theorem Cap.ins {k : Nat} {a b : List Int} (h : Cap k (a ++ b)) : Cap (k + 1) (a ++ 128 :: 0 :: b) := fun i => by
  by_cases c : i ≤ a.length
  · have q := h i
    rw [drop_app c] at q ⊢
    have := r1_ins (a.drop i) b
    omega
  · by_cases d : i = a.length + 1
    · have e : (a ++ 128 :: 0 :: b).drop i = 0 :: b := by
        rw [d, List.drop_append]
        simp
      rw [e, r1_low (by decide)]
      omega
    · have q := h (i - 2)
      have e : (a ++ 128 :: 0 :: b).drop i = (a ++ b).drop (i - 2) := by
        obtain ⟨j, rfl⟩ : ∃ j, i = a.length + (j + 2) := ⟨i - a.length - 2, by omega⟩
        have e2 : a.length + (j + 2) - 2 = a.length + j := by omega
        rw [e2, List.drop_append, List.drop_append]
        have e3 : a.length + (j + 2) - a.length = j + 2 := by omega
        have e4 : a.length + j - a.length = j := by omega
        have n1 : a.drop (a.length + (j + 2)) = [] := List.drop_eq_nil_of_le (by omega)
        have n2 : a.drop (a.length + j) = [] := List.drop_eq_nil_of_le (by omega)
        rw [e3, e4, n1, n2]
        rfl
      rw [e]
      omega
theorem sevR_small : ∀ (l : List Int) (tot tm : Int) (k j : Nat), (∀ x ∈ l, x < 256) → 0 ≤ tot → tot < tm → 0 < tm → r1 l ≤ j → ∀ n k', sevR l tot tm k = (some n, k') → n < tm * 128 ^ (j + 1)
  | [], _, _, _, _, _, _, _, _, _, n, k', h => by cases h
  | o :: r, tot, tm, k, j, hb, h0, h1, h2, hr, n, k', h => by
    have ho := hb o List.mem_cons_self
    unfold sevR at h
    by_cases c : 127 < o
    · rw [if_pos c] at h
      have hr' : 1 + r1 r ≤ j := by
        have := hr
        unfold r1 at this
        rwa [if_pos c] at this
      cases j with
      | zero => omega
      | succ j =>
        have a1 : (o - 128) * tm ≤ 127 * tm := Int.mul_le_mul_of_nonneg_right (by omega) (by omega)
        have a2 : 0 ≤ (o - 128) * tm := Int.mul_nonneg (by omega) (by omega)
        have q := sevR_small r (tot + (o - 128) * tm) (tm * 128) (k + 1) j (fun x hx => hb x (List.mem_cons_of_mem _ hx)) (by omega) (by omega) (by omega) (by omega) n k' h
        have e : tm * 128 * 128 ^ (j + 1) = tm * 128 ^ (j + 1 + 1) := by
          rw [Int.pow_succ 128 (j + 1), Int.mul_assoc, Int.mul_comm 128]
        omega
    · rw [if_neg c] at h
      by_cases d : o = 0 ∧ 1 < tm
      · rw [if_pos d] at h; cases h
      · rw [if_neg d] at h
        injection h with e1 e2
        injection e1 with e1
        have a1 : o * tm ≤ 127 * tm := Int.mul_le_mul_of_nonneg_right (by omega) (by omega)
        have a3 : (1 : Int) ≤ 128 ^ j := Int.pow_pos (by decide)
        have a4 : tm * 128 * 1 ≤ tm * 128 * 128 ^ j := Int.mul_le_mul_of_nonneg_left a3 (by omega)
        have e : tm * 128 * 128 ^ j = tm * 128 ^ (j + 1) := by
          rw [Int.pow_succ 128 j, Int.mul_assoc, Int.mul_comm 128]
        omega
/-- octets -/
def Oct (l : List Int) : Prop := ∀ x ∈ l, 0 ≤ x ∧ x < 256
theorem num_small {o : List Int} {spot k : Nat} {n : Int} (hb : Oct o) (hc : Cap 7 o) (h : num o spot = (some n, k)) : n < 2 ^ 56 := by
  have q := sevR_small (o.drop spot) 0 1 spot 7 (fun x hx => (hb x (List.mem_of_mem_drop hx)).2) (by decide) (by decide) (by decide) (hc spot) n k h
  have e : (1 : Int) * 128 ^ (7 + 1) = 2 ^ 56 := by decide
  rw [e] at q
  exact q
theorem sevR_nonneg : ∀ (l : List Int) (tot tm : Int) (k : Nat), (∀ x ∈ l, 0 ≤ x) → 0 ≤ tot → 0 < tm → ∀ n k', sevR l tot tm k = (some n, k') → 0 ≤ n
  | [], _, _, _, _, _, _, n, k', h => by cases h
  | o :: r, tot, tm, k, hb, h0, h2, n, k', h => by
    have ho := hb o List.mem_cons_self
    unfold sevR at h
    by_cases c : 127 < o
    · rw [if_pos c] at h
      have a2 : 0 ≤ (o - 128) * tm ∨ (o - 128) * tm < 0 := by omega
      have a3 : -(1 : Int) * tm ≤ (o - 128) * tm ∨ True := .inr trivial
      by_cases d : o = 128
      · subst d
        have e : ((128 : Int) - 128) * tm = 0 := by rw [Int.sub_self, Int.zero_mul]
        rw [e] at h
        exact sevR_nonneg r _ _ _ (fun x hx => hb x (List.mem_cons_of_mem _ hx)) (by omega) (by omega) n k' h
      · have a4 : 0 ≤ (o - 128) * tm := Int.mul_nonneg (by omega) (by omega)
        exact sevR_nonneg r _ _ _ (fun x hx => hb x (List.mem_cons_of_mem _ hx)) (by omega) (by omega) n k' h
    · rw [if_neg c] at h
      by_cases d : o = 0 ∧ 1 < tm
      · rw [if_pos d] at h; cases h
      · rw [if_neg d] at h
        injection h with e1 e2
        injection e1 with e1
        have a1 : 0 ≤ o * tm := Int.mul_nonneg ho (by omega)
        omega
theorem num_nonneg {o : List Int} {spot k : Nat} {n : Int} (hb : Oct o) (h : num o spot = (some n, k)) : 0 ≤ n :=
  sevR_nonneg (o.drop spot) 0 1 spot (fun x hx => (hb x (List.mem_of_mem_drop hx)).1) (Int.le_refl _) (by decide) n k h
theorem sev_oct : ∀ n : Nat, Oct (sev n)
  | n => by
    by_cases c : n < 128
    · rw [sev_lo c]
      intro x hx
      rw [List.mem_singleton] at hx
      omega
    · rw [sev_hi c]
      intro x hx
      rcases List.mem_cons.mp hx with e | hx
      · omega
      · exact sev_oct (n / 128) x hx
termination_by n => n
decreasing_by omega
theorem Oct.app {a b : List Int} (h : Oct a) (q : Oct b) : Oct (a ++ b) := fun x hx => (List.mem_append.mp hx).elim (h x) (q x)
theorem Oct.cons {x : Int} {b : List Int} (h : 0 ≤ x ∧ x < 256) (q : Oct b) : Oct (x :: b) := fun y hy => (List.mem_cons.mp hy).elim (fun e => e ▸ h) (q y)
theorem Oct.nil : Oct [] := fun _ h => by cases h
theorem Oct.take {a : List Int} (h : Oct a) (n : Nat) : Oct (a.take n) := fun x hx => h x (List.mem_of_mem_take hx)
theorem Oct.drop {a : List Int} (h : Oct a) (n : Nat) : Oct (a.drop n) := fun x hx => h x (List.mem_of_mem_drop hx)
mutual
theorem octs_oct : ∀ d : D, Good d → Oct (octs d)
  | .non, _ => .cons (by decide) .nil
  | .bl b, _ => by cases b <;> exact .cons (by decide) .nil
  | .int i, _ => by
    show Oct ((if 0 ≤ i then (3 : Int) else 4) :: sev i.natAbs)
    split
    · exact .cons (by decide) (sev_oct _)
    · exact .cons (by decide) (sev_oct _)
  | .str s, g => .cons (by decide) ((sev_oct _).app fun x hx => by
      obtain ⟨c, hc, rfl⟩ := List.mem_map.mp hx
      have := idx_lt (g.2 c hc)
      omega)
  | .tup xs, g => .cons (by decide) ((sev_oct _).app (octsL_oct xs g.2))
theorem octsL_oct : ∀ l : List D, GoodL l → Oct (octsL l)
  | [], _ => .nil
  | x :: xs, g => (octs_oct x g.1).app (octsL_oct xs g.2)
end
end K77
end

section
set_option autoImplicit false
/-! k77, plain Lean: how deep octets tell; runs of others; frames' octets. -/
namespace K77
open PySem
mutual
def dq : D → Nat
  | .tup xs => 1 + dqL xs
  | _ => 0
def dqL : List D → Nat
  | [] => 0
  | x :: xs => max (dq x) (dqL xs)
end
theorem dqL_app : ∀ (a b : List D), dqL (a ++ b) = max (dqL a) (dqL b)
  | [], b => by simp [dqL]
  | x :: a, b => by
    have := dqL_app a b
    simp only [List.cons_append, dqL, this]
    omega
/-- every open row's parts are at most R - height deep -/
def okB (R : Nat) : List (List D × Nat) → Prop
  | [] => True
  | q :: b => b.length + dqL q.1 ≤ R ∧ okB R b
theorem okB_mono {R R' : Nat} (h : R ≤ R') : ∀ {b : List (List D × Nat)}, okB R b → okB R' b
  | [], _ => trivial
  | _ :: _, h' => ⟨Nat.le_trans h'.1 h, okB_mono h h'.2⟩
structure Dk (o : List Int) (s : Stt) : Prop where
  sp : s.spot ≤ o.length
  top : s.below.length + dqL s.xs ≤ (o.take s.spot).count 6
  bl : okB ((o.take s.spot).count 6) s.below
theorem count_take {o : List Int} {a b : Nat} (h : a ≤ b) : (o.take a).count 6 ≤ (o.take b).count 6 := by
  have : (o.take a) = (o.take b).take a := by rw [List.take_take, Nat.min_eq_left h]
  rw [this]
  exact (List.take_sublist _ _).count_le 6
theorem part_dq {o : List Int} {t : Int} {k : Nat} {d : D} {k' : Nat} (h : part o t k = (some d, k')) : dq d = 0 := by
  unfold part at h
  split at h
  · injection h with h1 h2; injection h1 with h1; rw [← h1]; rfl
  split at h
  · injection h with h1 h2; injection h1 with h1; rw [← h1]; rfl
  split at h
  · injection h with h1 h2; injection h1 with h1; rw [← h1]; rfl
  split at h
  · generalize num o k = q at h
    obtain ⟨v, j⟩ := q
    cases v with
    | none => injection h with h1 h2; cases h1
    | some n =>
      simp only at h
      split at h
      · injection h with h1 h2; cases h1
      · injection h with h1 h2; injection h1 with h1; rw [← h1]; rfl
  split at h
  · injection h with h1 h2; cases h1
  · generalize num o k = q at h
    obtain ⟨v, j⟩ := q
    cases v with
    | none => injection h with h1 h2; cases h1
    | some n =>
      simp only at h
      generalize txtR n.toNat (o.drop j) j [] = r at h
      obtain ⟨t', j'⟩ := r
      cases t' with
      | none => injection h with h1 h2; cases h1
      | some t' => injection h with h1 h2; injection h1 with h1; rw [← h1]; rfl
theorem step_dk {o : List Int} {s s' : Stt} (hk : Dk o s) (h : step o s = .inl s') : Dk o s' := by
  have hm := step_mu hk.sp h
  obtain ⟨b, xs, m, k⟩ := s
  have hsp : k ≤ o.length := hk.sp
  have ht : b.length + dqL xs ≤ (o.take k).count 6 := hk.top
  have hb : okB ((o.take k).count 6) b := hk.bl
  unfold step at h
  simp only at h
  by_cases hmz : m = 0
  · rw [if_pos hmz] at h
    cases b with
    | nil => cases h
    | cons p b =>
      obtain ⟨ys, j⟩ := p
      injection h with h
      subst h
      refine ⟨hsp, ?_, hb.2⟩
      show b.length + dqL (ys ++ [.tup xs]) ≤ _
      have h1 : b.length + dqL ys ≤ (o.take k).count 6 := hb.1
      rw [dqL_app]
      simp only [dqL, dq, List.length_cons] at ht ⊢
      omega
  · rw [if_neg hmz] at h
    cases e : o[k]? with
    | none => rw [e] at h; cases h
    | some tag =>
      rw [e] at h
      have hkl : k < o.length := (List.getElem?_eq_some_iff.mp e).1
      simp only at h
      have hts : (o.take (k + 1)).count 6 = (o.take k).count 6 + if tag = 6 then 1 else 0 := by
        rw [List.take_add_one, e, List.count_append]
        congr 1
        by_cases c : tag = 6
        · rw [if_pos c, c]; rfl
        · rw [if_neg c]
          show [tag].count 6 = 0
          rw [List.count_eq_zero]
          simpa using fun z => c z.symm
      by_cases ht6 : tag = 6
      · rw [if_pos ht6] at h
        have h1 := num_spot (o := o) (spot := k + 1) hkl
        generalize num o (k + 1) = q at h h1
        obtain ⟨v, j⟩ := q
        simp only at h1
        cases v with
        | none => cases h
        | some n =>
          simp only at h
          by_cases hn : (o.length : Int) < n
          · rw [if_pos hn] at h; cases h
          · rw [if_neg hn] at h
            injection h with h
            subst h
            rw [if_pos ht6] at hts
            have hj := count_take (o := o) h1.1
            refine ⟨h1.2, ?_, ?_, okB_mono (R' := (o.take j).count 6) (by omega) hb⟩
            · show (b.length + 1) + dqL [] ≤ (o.take j).count 6
              simp only [dqL]
              omega
            · show b.length + dqL xs ≤ (o.take j).count 6
              omega
      · rw [if_neg ht6] at h
        have h1 := part_spot (o := o) (tag := tag) (spot := k + 1) hkl
        cases ep : part o tag (k + 1) with
        | mk v j =>
          rw [ep] at h h1
          simp only at h1
          cases v with
          | none => cases h
          | some d =>
            simp only at h
            injection h with h
            subst h
            have hj := count_take (o := o) (Nat.le_trans (Nat.le_succ k) h1.1)
            have hd := part_dq ep
            refine ⟨h1.2, ?_, okB_mono hj hb⟩
            show b.length + dqL (xs ++ [d]) ≤ _
            rw [dqL_app]
            simp only [dqL, hd]
            omega
theorem run_dk {o : List Int} : ∀ (f : Nat) (s : Stt) (d : D), Dk o s → run o f s = .ok d → dq d ≤ o.count 6
  | 0, _, _, _, h => by cases h
  | f + 1, s, d, hk, h => by
    unfold run at h
    cases e : step o s with
    | inl s' =>
      rw [e] at h
      exact run_dk f s' d (step_dk hk e) h
    | inr r =>
      rw [e] at h
      have h' : r = .ok d := h
      subst h'
      obtain ⟨b, xs, m, k⟩ := s
      have ht : b.length + dqL xs ≤ (o.take k).count 6 := hk.top
      have hle : (o.take k).count 6 ≤ o.count 6 := (List.take_sublist _ _).count_le 6
      unfold step at e
      simp only at e
      by_cases hmz : m = 0
      · rw [if_pos hmz] at e
        cases b with
        | nil =>
          injection e with e
          split at e
          · cases e
          · injection e with e
            cases xs with
            | nil => rw [← e]; exact Nat.zero_le _
            | cons x xs =>
              have e2 : x = d := e
              subst e2
              simp only [dqL, List.length_nil] at ht
              omega
        | cons p b => cases e
      · rw [if_neg hmz] at e
        cases e1 : o[k]? with
        | none => rw [e1] at e; injection e with e; cases e
        | some tag =>
          rw [e1] at e
          simp only at e
          by_cases ht6 : tag = 6
          · rw [if_pos ht6] at e
            generalize num o (k + 1) = q at e
            obtain ⟨v, j⟩ := q
            cases v with
            | none => injection e with e; cases e
            | some n =>
              simp only at e
              split at e
              · injection e with e; cases e
              · cases e
          · rw [if_neg ht6] at e
            generalize part o tag (k + 1) = q at e
            obtain ⟨v, j⟩ := q
            cases v with
            | none => injection e with e; cases e
            | some n => cases e
theorem read_dk {o : List Int} {d : D} (h : read o = .ok d) : dq d ≤ o.count 6 :=
  run_dk _ begun d (⟨Nat.zero_le _, Nat.zero_le _, trivial⟩ : Dk o begun) h
/-! ### runs -/
theorem r1_len : ∀ l : List Int, r1 l ≤ l.length
  | [] => Nat.le_refl _
  | x :: t => by
    have := r1_len t
    unfold r1
    simp only [List.length_cons]
    split <;> omega
theorem Cap.small {k : Nat} {l : List Int} (h : l.length ≤ k) : Cap k l := fun i => by
  have h1 := r1_len (l.drop i)
  rw [List.length_drop] at h1
  omega
theorem r1_app_low {x : Int} (h : x < 128) : ∀ a b : List Int, r1 (a ++ x :: b) = r1 a
  | [], b => by rw [List.nil_append, r1_low h]; rfl
  | y :: a, b => by
    have := r1_app_low h a b
    show (if 127 < y then 1 + r1 (a ++ x :: b) else 0) = (if 127 < y then 1 + r1 a else 0)
    rw [this]
theorem Cap.snoc_low {k : Nat} {x : Int} {l : List Int} (h : Cap k l) (hx : x < 128) : Cap k (l ++ [x]) := fun i => by
  by_cases c : i ≤ l.length
  · rw [List.drop_append_of_le_length c, r1_app_low hx]
    exact h i
  · rw [List.drop_eq_nil_of_le (by rw [List.length_append]; simp only [List.length_cons, List.length_nil]; omega)]
    exact Nat.zero_le _
theorem Cap.cons_low {k : Nat} {x : Int} {l : List Int} (h : Cap k l) (hx : x < 128) : Cap k (x :: l) := h.cons (by rw [r1_low hx]; exact Nat.zero_le _)
theorem octs_head (d : D) : ∃ t r, octs d = t :: r ∧ t < 128 := by
  cases d with
  | non => exact ⟨0, _, rfl, by decide⟩
  | bl b => cases b <;> exact ⟨_, _, rfl, by decide⟩
  | int i =>
    refine ⟨if 0 ≤ i then 3 else 4, _, rfl, ?_⟩
    split <;> decide
  | str s => exact ⟨5, _, rfl, by decide⟩
  | tup xs => exact ⟨6, _, rfl, by decide⟩
end K77
end

section
set_option Elab.async false
set_option linter.all false
set_option maxRecDepth 100000
set_option maxHeartbeats 4000000
namespace K77
open PySem L2
/-! ### the text by places -/
def top (i : Nat) : Stmt := PySem.Challenge.pw_whattocheck_k77_whole_octets_and_what_a.main.body.getD i (.Pass ⟨0, 0, 0, 0⟩)
abbrev s_is_int : Stmt := top 5
theorem sc_is_int : FnScope ["value"] ["value"] (defScope s_is_int) := ⟨rfl, rfl, rfl, by decide +kernel, rfl, by decide +kernel, by decide +kernel⟩
abbrev s_counted : Stmt := top 15
theorem sc_counted : FnScope ["number", "found"] ["number"] (defScope s_counted) := ⟨rfl, rfl, rfl, by decide +kernel, rfl, by decide +kernel, by decide +kernel⟩
abbrev s_packed : Stmt := top 16
theorem sc_packed : FnScope ["value", "found", "left", "one", "sign"] ["value"] (defScope s_packed) := ⟨rfl, rfl, rfl, by decide +kernel, rfl, by decide +kernel, by decide +kernel⟩
abbrev s_Reader_init : Stmt := inClass (top 17) 0
theorem sc_Reader_init : FnScope ["self", "octets"] ["self", "octets"] (defScope s_Reader_init) := ⟨rfl, rfl, rfl, by decide +kernel, rfl, by decide +kernel, by decide +kernel⟩
abbrev s_Reader_one : Stmt := inClass (top 17) 1
theorem sc_Reader_one : FnScope ["self"] ["self"] (defScope s_Reader_one) := ⟨rfl, rfl, rfl, by decide +kernel, rfl, by decide +kernel, by decide +kernel⟩
abbrev s_Reader_number : Stmt := inClass (top 17) 2
theorem sc_Reader_number : FnScope ["self", "total", "times", "octet"] ["self"] (defScope s_Reader_number) := ⟨rfl, rfl, rfl, by decide +kernel, rfl, by decide +kernel, by decide +kernel⟩
abbrev s_Reader_sign : Stmt := inClass (top 17) 3
theorem sc_Reader_sign : FnScope ["self", "number"] ["self"] (defScope s_Reader_sign) := ⟨rfl, rfl, rfl, by decide +kernel, rfl, by decide +kernel, by decide +kernel⟩
abbrev s_plain_part : Stmt := top 18
theorem sc_plain_part : FnScope ["reader", "tag", "number", "turn"] ["reader", "tag"] (defScope s_plain_part) := ⟨rfl, rfl, rfl, by decide +kernel, rfl, by decide +kernel, by decide +kernel⟩
abbrev s_unpacked : Stmt := top 19
theorem sc_unpacked : FnScope ["octets", "reader", "open_rows", "whole", "tag", "many"] ["octets"] (defScope s_unpacked) := ⟨rfl, rfl, rfl, by decide +kernel, rfl, by decide +kernel, by decide +kernel⟩
abbrev s_xored : Stmt := top 24
theorem sc_xored : FnScope ["octets", "total", "octet"] ["octets"] (defScope s_xored) := ⟨rfl, rfl, rfl, by decide +kernel, rfl, by decide +kernel, by decide +kernel⟩
abbrev s_weighed : Stmt := top 25
theorem sc_weighed : FnScope ["octets", "place", "octet"] ["octets"] (defScope s_weighed) := ⟨rfl, rfl, rfl, by decide +kernel, rfl, by decide +kernel, by decide +kernel⟩
abbrev s_head_of : Stmt := top 26
theorem sc_head_of : FnScope ["kind", "long", "told"] ["kind", "long"] (defScope s_head_of) := ⟨rfl, rfl, rfl, by decide +kernel, rfl, by decide +kernel, by decide +kernel⟩
abbrev s_foot_of : Stmt := top 27
theorem sc_foot_of : FnScope ["payload", "sums"] ["payload"] (defScope s_foot_of) := ⟨rfl, rfl, rfl, by decide +kernel, rfl, by decide +kernel, by decide +kernel⟩
abbrev s_frame : Stmt := top 28
theorem sc_frame : FnScope ["kind", "payload"] ["kind", "payload"] (defScope s_frame) := ⟨rfl, rfl, rfl, by decide +kernel, rfl, by decide +kernel, by decide +kernel⟩
abbrev s_frames_of : Stmt := top 29
theorem sc_frames_of : FnScope ["octets", "rows", "spot", "kind", "high", "low", "check", "long", "behind", "payload"] ["octets"] (defScope s_frames_of) := ⟨rfl, rfl, rfl, by decide +kernel, rfl, by decide +kernel, by decide +kernel⟩
abbrev s_Medium_init : Stmt := inClass (top 32) 0
theorem sc_Medium_init : FnScope ["self", "name"] ["self"] (defScope s_Medium_init) := ⟨rfl, rfl, rfl, by decide +kernel, rfl, by decide +kernel, by decide +kernel⟩
abbrev s_Medium_read : Stmt := inClass (top 32) 1
theorem sc_Medium_read : FnScope ["self", "name"] ["self", "name"] (defScope s_Medium_read) := ⟨rfl, rfl, rfl, by decide +kernel, rfl, by decide +kernel, by decide +kernel⟩
abbrev s_Medium_begin : Stmt := inClass (top 32) 2
theorem sc_Medium_begin : FnScope ["self", "name"] ["self", "name"] (defScope s_Medium_begin) := ⟨rfl, rfl, rfl, by decide +kernel, rfl, by decide +kernel, by decide +kernel⟩
abbrev s_Medium_write : Stmt := inClass (top 32) 3
theorem sc_Medium_write : FnScope ["self", "name", "octets"] ["self", "name", "octets"] (defScope s_Medium_write) := ⟨rfl, rfl, rfl, by decide +kernel, rfl, by decide +kernel, by decide +kernel⟩
abbrev s_Medium_sync : Stmt := inClass (top 32) 4
theorem sc_Medium_sync : FnScope ["self", "name"] ["self", "name"] (defScope s_Medium_sync) := ⟨rfl, rfl, rfl, by decide +kernel, rfl, by decide +kernel, by decide +kernel⟩
abbrev s_Medium_trim : Stmt := inClass (top 32) 5
theorem sc_Medium_trim : FnScope ["self", "name", "long"] ["self", "name", "long"] (defScope s_Medium_trim) := ⟨rfl, rfl, rfl, by decide +kernel, rfl, by decide +kernel, by decide +kernel⟩
abbrev s_Medium_choices : Stmt := inClass (top 32) 6
theorem sc_Medium_choices : FnScope ["self", "found", "name", "some"] ["self"] (defScope s_Medium_choices) := ⟨rfl, rfl, rfl, by decide +kernel, rfl, by decide +kernel, by decide +kernel⟩
abbrev s_Medium_cut : Stmt := inClass (top 32) 7
theorem sc_Medium_cut : FnScope ["self", "told", "choices", "found", "number", "name", "here"] ["self", "told"] (defScope s_Medium_cut) := ⟨rfl, rfl, rfl, by decide +kernel, rfl, by decide +kernel, by decide +kernel⟩
abbrev s__law_box : Stmt := top 34
theorem sc__law_box : FnScope ["script", "k", "cell", "great"] ["script", "k"] (defScope s__law_box) := ⟨rfl, rfl, rfl, by decide +kernel, rfl, by decide +kernel, by decide +kernel⟩
abbrev s__law_take : Stmt := top 35
theorem sc__law_take : FnScope ["box", "many", "digit", "raw"] ["box", "many"] (defScope s__law_take) := ⟨rfl, rfl, rfl, by decide +kernel, rfl, by decide +kernel, by decide +kernel⟩
abbrev s__law_pick : Stmt := top 36
theorem sc__law_pick : FnScope ["box", "some"] ["box", "some"] (defScope s__law_pick) := ⟨rfl, rfl, rfl, by decide +kernel, rfl, by decide +kernel, by decide +kernel⟩
abbrev s__law_same : Stmt := top 37
theorem sc__law_same : FnScope ["told", "due", "one", "other"] ["told", "due"] (defScope s__law_same) := ⟨rfl, rfl, rfl, by decide +kernel, rfl, by decide +kernel, by decide +kernel⟩
abbrev s__law_signs : Stmt := top 38
theorem sc__law_signs : FnScope [] [] (defScope s__law_signs) := ⟨rfl, rfl, rfl, by decide +kernel, rfl, by decide +kernel, by decide +kernel⟩
abbrev s__law_sevens : Stmt := top 39
theorem sc__law_sevens : FnScope ["number", "found", "turn"] ["number"] (defScope s__law_sevens) := ⟨rfl, rfl, rfl, by decide +kernel, rfl, by decide +kernel, by decide +kernel⟩
abbrev s__law_octets : Stmt := top 40
theorem sc__law_octets : FnScope ["value", "found", "part", "sign"] ["value"] (defScope s__law_octets) := ⟨rfl, rfl, rfl, by decide +kernel, rfl, by decide +kernel, by decide +kernel⟩
abbrev s__law_framed : Stmt := top 41
theorem sc__law_framed : FnScope ["kind", "payload", "head", "mixed_now", "weighed_now", "spot", "octet"] ["kind", "payload"] (defScope s__law_framed) := ⟨rfl, rfl, rfl, by decide +kernel, rfl, by decide +kernel, by decide +kernel⟩
abbrev s__law_whole_frames : Stmt := top 42
theorem sc__law_whole_frames : FnScope ["octets", "found", "spot", "turn", "rest", "long"] ["octets"] (defScope s__law_whole_frames) := ⟨rfl, rfl, rfl, by decide +kernel, rfl, by decide +kernel, by decide +kernel⟩
abbrev s__law_any_value : Stmt := top 43
theorem sc__law_any_value : FnScope ["box", "deep", "way", "part"] ["box", "deep"] (defScope s__law_any_value) := ⟨rfl, rfl, rfl, by decide +kernel, rfl, by decide +kernel, by decide +kernel⟩
abbrev s__law_sevens_read : Stmt := top 44
theorem sc__law_sevens_read : FnScope ["octets", "spot", "number", "times", "turn", "octet"] ["octets", "spot"] (defScope s__law_sevens_read) := ⟨rfl, rfl, rfl, by decide +kernel, rfl, by decide +kernel, by decide +kernel⟩
abbrev s__law_one_read : Stmt := top 45
theorem sc__law_one_read : FnScope ["octets", "tag", "spot", "number", "word", "turn"] ["octets", "tag", "spot"] (defScope s__law_one_read) := ⟨rfl, rfl, rfl, by decide +kernel, rfl, by decide +kernel, by decide +kernel⟩
abbrev s__law_read : Stmt := top 46
theorem sc__law_read : FnScope ["octets", "rows", "spot", "turn", "part", "tag", "many", "told"] ["octets"] (defScope s__law_read) := ⟨rfl, rfl, rfl, by decide +kernel, rfl, by decide +kernel, by decide +kernel⟩
abbrev s__law_told_of_octets : Stmt := top 47
theorem sc__law_told_of_octets : FnScope ["octets", "wrong"] ["octets"] (defScope s__law_told_of_octets) := ⟨rfl, rfl, rfl, by decide +kernel, rfl, by decide +kernel, by decide +kernel⟩
abbrev s__law_medium_turn : Stmt := top 48
theorem sc__law_medium_turn : FnScope ["box", "medium", "files", "name", "row", "way", "some", "long", "wrong", "told", "cut", "due", "spot", "choices", "one", "choice"] ["box", "medium", "files"] (defScope s__law_medium_turn) := ⟨rfl, rfl, rfl, by decide +kernel, rfl, by decide +kernel, by decide +kernel⟩
abbrev s__law_begun_twice : Stmt := top 49
theorem sc__law_begun_twice : FnScope ["medium", "told"] [] (defScope s__law_begun_twice) := ⟨rfl, rfl, rfl, by decide +kernel, rfl, by decide +kernel, by decide +kernel⟩
abbrev s_law : Stmt := top 50
theorem sc_law : FnScope ["script", "k", "box", "turn", "value", "octets", "spot", "others", "told", "parts", "frames", "whole", "some", "found", "end", "tail", "medium", "files", "due", "kind", "payload", "name"] ["script"] (defScope s_law) := ⟨rfl, rfl, rfl, by decide +kernel, rfl, by decide +kernel, by decide +kernel⟩
/-! ### what the top has left -/
/-- a def of the module -/
structure FnF (K : PySem.W.Frag) (mg : Str → Option Value) (name : Str) (st : Stmt) (ps : List Str) where
  f : Addr
  fd : FuncData
  F : Fun K name name st f fd
  m : mg name = some (.ref f)
  b : Binds K fd ps []
/-- a method -/
structure MtF (K : PySem.W.Frag) (C : Addr) (name qual : Str) (st : Stmt) (ps : List Str) where
  f : Addr
  fd : FuncData
  F : Fun K name qual st f fd
  mt : Meth K C name f
  b : Binds K fd ps []
structure ClF (K : PySem.W.Frag) (mg : Str → Option Value) (name : Str) (C f : Addr) : Prop where
  g : mg name = some (.ref C)
  cl : Cls K C
  make : Mk K C f
def sigS : Str := ⟨sigs.toArray⟩
structure Tx (P : Program) (K : PySem.W.Frag) (mg : Str → Option Value) where
  is_int : FnF K mg "is_int" s_is_int ["value"]
  counted : FnF K mg "counted" s_counted ["number"]
  packed : FnF K mg "packed" s_packed ["value"]
  plain_part : FnF K mg "plain_part" s_plain_part ["reader", "tag"]
  unpacked : FnF K mg "unpacked" s_unpacked ["octets"]
  xored : FnF K mg "xored" s_xored ["octets"]
  weighed : FnF K mg "weighed" s_weighed ["octets"]
  head_of : FnF K mg "head_of" s_head_of ["kind", "long"]
  foot_of : FnF K mg "foot_of" s_foot_of ["payload"]
  frame : FnF K mg "frame" s_frame ["kind", "payload"]
  frames_of : FnF K mg "frames_of" s_frames_of ["octets"]
  _law_box : FnF K mg "_law_box" s__law_box ["script", "k"]
  _law_take : FnF K mg "_law_take" s__law_take ["box", "many"]
  _law_pick : FnF K mg "_law_pick" s__law_pick ["box", "some"]
  _law_same : FnF K mg "_law_same" s__law_same ["told", "due"]
  _law_signs : FnF K mg "_law_signs" s__law_signs []
  _law_sevens : FnF K mg "_law_sevens" s__law_sevens ["number"]
  _law_octets : FnF K mg "_law_octets" s__law_octets ["value"]
  _law_framed : FnF K mg "_law_framed" s__law_framed ["kind", "payload"]
  _law_whole_frames : FnF K mg "_law_whole_frames" s__law_whole_frames ["octets"]
  _law_any_value : FnF K mg "_law_any_value" s__law_any_value ["box", "deep"]
  _law_sevens_read : FnF K mg "_law_sevens_read" s__law_sevens_read ["octets", "spot"]
  _law_one_read : FnF K mg "_law_one_read" s__law_one_read ["octets", "tag", "spot"]
  _law_read : FnF K mg "_law_read" s__law_read ["octets"]
  _law_told_of_octets : FnF K mg "_law_told_of_octets" s__law_told_of_octets ["octets"]
  _law_medium_turn : FnF K mg "_law_medium_turn" s__law_medium_turn ["box", "medium", "files"]
  _law_begun_twice : FnF K mg "_law_begun_twice" s__law_begun_twice []
  law : FnF K mg "law" s_law ["script"]
  CBadOctets : Addr
  IBadOctets : Addr
  BadOctets : Own.Txt P K mg "BadOctets" "at" CBadOctets IBadOctets
  CRefused : Addr
  IRefused : Addr
  Refused : Own.Txt P K mg "Refused" "value" CRefused IRefused
  CReader : Addr
  Reader_init : MtF K CReader "__init__" "Reader.__init__" s_Reader_init ["self", "octets"]
  Reader_one : MtF K CReader "one" "Reader.one" s_Reader_one ["self"]
  Reader_number : MtF K CReader "number" "Reader.number" s_Reader_number ["self"]
  Reader_sign : MtF K CReader "sign" "Reader.sign" s_Reader_sign ["self"]
  Reader : ClF K mg "Reader" CReader Reader_init.f
  Reader_given : NoAttr K CReader "given"
  Reader_spot : NoAttr K CReader "spot"
  CMedium : Addr
  Medium_init : MtF K CMedium "__init__" "Medium.__init__" s_Medium_init ["self"]
  Medium_read : MtF K CMedium "read" "Medium.read" s_Medium_read ["self", "name"]
  Medium_begin : MtF K CMedium "begin" "Medium.begin" s_Medium_begin ["self", "name"]
  Medium_write : MtF K CMedium "write" "Medium.write" s_Medium_write ["self", "name", "octets"]
  Medium_sync : MtF K CMedium "sync" "Medium.sync" s_Medium_sync ["self", "name"]
  Medium_trim : MtF K CMedium "trim" "Medium.trim" s_Medium_trim ["self", "name", "long"]
  Medium_choices : MtF K CMedium "choices" "Medium.choices" s_Medium_choices ["self"]
  Medium_cut : MtF K CMedium "cut" "Medium.cut" s_Medium_cut ["self", "told"]
  Medium : ClF K mg "Medium" CMedium Medium_init.f
  Medium_rows : NoAttr K CMedium "rows"
  Medium_safe : NoAttr K CMedium "safe"
  Medium_former : NoAttr K CMedium "former"
  aFILES : Addr
  FILES_at : ∀ H, SqT K H aFILES [.str "life", .str "left", .str "right"]
  c_NONE : ∃ u, mg "NONE" = some u ∧ RelV (.int 0) u
  c_NO : ∃ u, mg "NO" = some u ∧ RelV (.int 1) u
  c_YES : ∃ u, mg "YES" = some u ∧ RelV (.int 2) u
  c_UP : ∃ u, mg "UP" = some u ∧ RelV (.int 3) u
  c_DOWN : ∃ u, mg "DOWN" = some u ∧ RelV (.int 4) u
  c_TEXT : ∃ u, mg "TEXT" = some u ∧ RelV (.int 5) u
  c_ROW : ∃ u, mg "ROW" = some u ∧ RelV (.int 6) u
  c_SIGNS : ∃ u, mg "SIGNS" = some u ∧ RelV (.str sigS) u
  c_HEAD : ∃ u, mg "HEAD" = some u ∧ RelV (.int 4) u
  c_FOOT : ∃ u, mg "FOOT" = some u ∧ RelV (.int 3) u
  c_WEIGHED : ∃ u, mg "WEIGHED" = some u ∧ RelV (.int 65521) u
  c_FILES : ∃ u, mg "FILES" = some u ∧ RelV (.ref aFILES) u
  n_abs : mg "abs" = none
  n_bool : mg "bool" = none
  n_enumerate : mg "enumerate" = none
  n_int : mg "int" = none
  n_isinstance : mg "isinstance" = none
  n_len : mg "len" = none
  n_list : mg "list" = none
  n_max : mg "max" = none
  n_min : mg "min" = none
  n_range : mg "range" = none
  n_str : mg "str" = none
  n_sum : mg "sum" = none
  n_tuple : mg "tuple" = none
  n_zip : mg "zip" = none
/-! ### calls with keywords: the positional ones, then the others in the parameters' order -/
def kg {α : Type} (n m : Nat) (us ws : List α) : List α := if us.length = n ∧ ws.length = m then us ++ ws else []
theorem kbinds_of {K : PySem.W.Frag} {x qual : Str} {st : Stmt} {f : Addr} {fd : FuncData} {ps ks : List Str} (F : Fun K x qual st f fd) (n m : Nat) (h0 : ps.length ≠ 0)
    (h : ∀ (kV doc pm : Value) (an : Option Addr) (cdv ct : Value) (us ws : List Value), us.length = n → ws.length = m →
      bindArgs (PySem.W.fnOf x qual (defArgs st) (defBody st) (defScope st) .none kV doc pm an cdv ct) ⟨us, ks.zip ws⟩ = pure (ps.zip (us ++ ws))) : KBinds K fd ps ks (kg n m) (kg n m) := by
  obtain ⟨oc, od, kV, doc, pm, an, cdv, ct, osl, e, _, _⟩ := F.ex
  subst e
  refine ⟨fun s us ws _ hl => ?_, fun {vs us zs ws} r rz => ?_⟩
  · unfold kg at hl ⊢
    by_cases c : us.length = n ∧ ws.length = m
    · rw [if_pos c]
      exact BindsTo.of_eq (h kV doc pm an cdv ct us ws c.1 c.2)
    · rw [if_neg c] at hl
      exact absurd hl.symm h0
  · unfold kg
    rw [r.length, rz.length]
    by_cases c : us.length = n ∧ ws.length = m
    · rw [if_pos c, if_pos c]
      exact r.append rz
    · rw [if_neg c, if_neg c]
      exact .nil

/-! ### heaps -/
/-- all that stands at H stands at H', but for what lies at S -/
def But (S : List Addr) (H H' : Hp) : Prop := ∀ c o, c ∉ S → H c = some o → H' c = some o
theorem But.refl {S : List Addr} {H : Hp} : But S H H := fun _ _ _ e => e
theorem But.trans {S : List Addr} {H H1 H2 : Hp} (a : But S H H1) (b : But S H1 H2) : But S H H2 := fun c o n e => b c o n (a c o n e)
theorem But.of {S : List Addr} {H H' : Hp} (a : Same H H') : But S H H' := fun c o _ e => a c o e
theorem But.same {H H' : Hp} (a : But [] H H') : Same H H' := fun c o e => a c o (by simp) e
theorem But.mono {S S' : List Addr} {H H' : Hp} (a : But S H H') (h : ∀ c ∈ S, c ∈ S') : But S' H H' := fun c o n e => a c o (fun q => n (h c q)) e
theorem But.upd {S : List Addr} {H : Hp} {a : Addr} {o : HO} (h : a ∈ S) : But S H (L2.upd H a o) := fun c u n e => by
  have hne : c ≠ a := fun z => n (by rw [z]; exact h)
  rw [upd_ne hne]
  exact e
theorem But.at {S : List Addr} {H H' : Hp} {a : Addr} {o : HO} (b : But S H H') (h : H a = some o) (n : a ∉ S) : H' a = some o := b a o n h
theorem same_new {H : Hp} {p : Addr} {o : HO} (h : H p = none) : Same H (upd H p o) := fun b u e => by
  rw [upd_ne (ne_of_none e h)]
  exact e
/-- what is none stays none backwards -/
theorem But.back {S : List Addr} {H H' : Hp} {p : Addr} (b : But S H H') (n : p ∉ S) (h : H' p = none) : H p = none := by
  cases e : H p with
  | none => rfl
  | some o => rw [b p o n e] at h; cases h
theorem new_tup {H : Hp} {xs : List V} {Q : V → Hp → Prop} (h : ∀ p H', H p = none → Same H H' → H' p = some (.tup xs) → Q (.ref p) H') : ∀ p, H p = none → Q (.ref p) (upd H p (.tup xs)) := fun p hp => h p _ hp (same_new hp) upd_same
theorem new_lst {H : Hp} {xs : List V} {Q : V → Hp → Prop} (h : ∀ p H', H p = none → Same H H' → H' p = some (.lst xs) → Q (.ref p) H') : ∀ p, H p = none → Q (.ref p) (upd H p (.lst xs)) := fun p hp => h p _ hp (same_new hp) upd_same
/-- an object that H does not know may change -/
theorem Same.put {H H' : Hp} {p : Addr} {o : HO} (e : Same H H') (h : H p = none) : Same H (upd H' p o) := fun a u ha => by
  rw [upd_ne (ne_of_none ha h)]
  exact e a u ha
theorem But.put {S : List Addr} {H H' : Hp} {p : Addr} {o : HO} (e : But S H H') (h : H p = none) : But S H (L2.upd H' p o) := fun a u n ha => by
  rw [upd_ne (ne_of_none ha h)]
  exact e a u n ha

/-! ### data that never change -/
section
variable {K : PySem.W.Frag}
mutual
/-- v stands for the datum -/
inductive Im (K : PySem.W.Frag) (H : Hp) : V → D → Prop
  | non : Im K H .non .non
  | bl (b : Bool) : Im K H (.bl b) (.bl b)
  | int (i : Int) : Im K H (.int i) (.int i)
  | str (x : Str) : Im K H (.str x) (.str x)
  | tup {a : Addr} {xs : List V} {ds : List D} : SqT K H a xs → ImL K H xs ds → Im K H (.ref a) (.tup ds)
inductive ImL (K : PySem.W.Frag) (H : Hp) : List V → List D → Prop
  | nil : ImL K H [] []
  | cons {v : V} {vs : List V} {d : D} {ds : List D} : Im K H v d → ImL K H vs ds → ImL K H (v :: vs) (d :: ds)
end
/-- tuples are kept -/
def Tk (K : PySem.W.Frag) (H H' : Hp) : Prop := ∀ a xs, SqT K H a xs → SqT K H' a xs
theorem Tk.refl {H : Hp} : Tk K H H := fun _ _ h => h
theorem Tk.trans {H H1 H2 : Hp} (a : Tk K H H1) (b : Tk K H1 H2) : Tk K H H2 := fun x xs h => b x xs (a x xs h)
theorem Tk.same {H H' : Hp} (s : Same H H') : Tk K H H' := fun a xs h => by
  rcases h with (h | ⟨o, h⟩) | h
  · exact .inl (.inl (s _ _ h))
  · exact .inl (.inr ⟨o, s _ _ h⟩)
  · exact .inr h
/-- no tuple stands at S -/
def NoT (H : Hp) (S : List Addr) : Prop := ∀ a ∈ S, (∀ xs, H a ≠ some (.tup xs)) ∧ ∀ o xs, H a ≠ some (.frz o (.tup xs))
theorem Tk.but {S : List Addr} {H H' : Hp} (b : But S H H') (n : NoT H S) : Tk K H H' := fun a xs h => by
  rcases h with (h | ⟨o, h⟩) | h
  · exact .inl (.inl (b _ _ (fun q => (n a q).1 _ h) h))
  · exact .inl (.inr ⟨o, b _ _ (fun q => (n a q).2 _ _ h) h⟩)
  · exact .inr h
theorem noT_nil {H : Hp} : NoT H [] := fun _ h => by cases h
theorem noT_lst {H : Hp} {a : Addr} {xs : List V} {S : List Addr} (h : H a = some (.lst xs)) (n : NoT H S) : NoT H (a :: S) := fun b hb => by
  rcases List.mem_cons.mp hb with e | hb
  · subst e
    exact ⟨fun ys q => (by rw [h] at q; cases q), fun o ys q => (by rw [h] at q; cases q)⟩
  · exact n b hb
theorem noT_dK {H : Hp} {a : Addr} {xs : List (Key × V)} {S : List Addr} (h : H a = some (.dK xs)) (n : NoT H S) : NoT H (a :: S) := fun b hb => by
  rcases List.mem_cons.mp hb with e | hb
  · subst e
    exact ⟨fun ys q => (by rw [h] at q; cases q), fun o ys q => (by rw [h] at q; cases q)⟩
  · exact n b hb
theorem noT_ins {H : Hp} {a C dx : Addr} {fs : List (Str × V)} {S : List Addr} (h : H a = some (.ins C dx fs)) (n : NoT H S) : NoT H (a :: S) := fun b hb => by
  rcases List.mem_cons.mp hb with e | hb
  · subst e
    exact ⟨fun ys q => (by rw [h] at q; cases q), fun o ys q => (by rw [h] at q; cases q)⟩
  · exact n b hb
mutual
theorem Im.mono {H H' : Hp} (t : Tk K H H') : ∀ {d : D} {v : V}, Im K H v d → Im K H' v d
  | .non, _, h => by cases h; exact .non
  | .bl b, _, h => by cases h; exact .bl b
  | .int i, _, h => by cases h; exact .int i
  | .str x, _, h => by cases h; exact .str x
  | .tup ds, _, h => by
    cases h with
    | tup hs hl => exact .tup (t _ _ hs) (ImL.mono t hl)
theorem ImL.mono {H H' : Hp} (t : Tk K H H') : ∀ {ds : List D} {vs : List V}, ImL K H vs ds → ImL K H' vs ds
  | [], _, h => by cases h; exact .nil
  | d :: ds, _, h => by
    cases h with
    | cons h1 h2 => exact .cons (Im.mono t h1) (ImL.mono t h2)
end
theorem ImL.len {H : Hp} : ∀ {ds : List D} {vs : List V}, ImL K H vs ds → vs.length = ds.length
  | [], _, h => by cases h; rfl
  | d :: ds, _, h => by
    cases h with
    | cons h1 h2 => simp only [List.length_cons, ImL.len h2]
theorem ImL.get {H : Hp} : ∀ {ds : List D} {vs : List V} {i : Nat} {v : V}, ImL K H vs ds → vs[i]? = some v → ∃ d, ds[i]? = some d ∧ Im K H v d
  | [], _, i, v, h, e => by cases h; simp at e
  | d :: ds, _, i, v, h, e => by
    cases h with
    | cons h1 h2 =>
      cases i with
      | zero =>
        simp at e
        subst e
        exact ⟨d, rfl, h1⟩
      | succ i =>
        obtain ⟨d', e', h'⟩ := ImL.get (i := i) h2 (by simpa using e)
        exact ⟨d', by simpa using e', h'⟩
theorem ImL.app {H : Hp} : ∀ {ds es : List D} {vs us : List V}, ImL K H vs ds → ImL K H us es → ImL K H (vs ++ us) (ds ++ es)
  | [], _, _, _, h, h' => by cases h; exact h'
  | d :: ds, _, _, _, h, h' => by
    cases h with
    | cons h1 h2 => exact .cons h1 (ImL.app h2 h')
theorem ImL.ints {H : Hp} : ∀ (ns : List Int), ImL K H (ns.map V.int) (ns.map D.int)
  | [] => .nil
  | n :: ns => .cons (.int n) (ImL.ints ns)
theorem ImL.of_ints {H : Hp} : ∀ {ns : List Int} {vs : List V}, ImL K H vs (ns.map D.int) → vs = ns.map V.int
  | [], _, h => by cases h; rfl
  | n :: ns, _, h => by
    cases h with
    | cons h1 h2 =>
      cases h1
      rw [ImL.of_ints h2]
      rfl
/-- a tuple of ints -/
def tI (ns : List Int) : D := .tup (ns.map D.int)
theorem Im.tI {H : Hp} {a : Addr} {ns : List Int} (h : SqT K H a (ns.map V.int)) : Im K H (.ref a) (tI ns) := .tup h (ImL.ints ns)
theorem Im.to_tI {H : Hp} {v : V} {ns : List Int} (h : Im K H v (K77.tI ns)) : ∃ a, v = .ref a ∧ SqT K H a (ns.map V.int) := by
  unfold K77.tI at h
  cases h with
  | tup hs hl =>
    rw [ImL.of_ints hl] at hs
    exact ⟨_, rfl, hs⟩
end
/-! ### a new tuple, a slice, whatever it is: some tuple of these -/
section
variable {X : Cx}
def rCatU (K : PySem.W.Frag) : R2 := fun x y H Q => ∃ a b xs ys, x = .ref a ∧ y = .ref b ∧ SqT K H a xs ∧ SqT K H b ys ∧ xs.length + ys.length ≤ sizeLine ∧ ∀ p H', Same H H' → SqT K H' p (xs ++ ys) → Q (.ref p) H'
theorem op_catU : OpR X (binaryOp .Add) (rCatU X.K) := by
  intro pins s σ H x y v u Q I rx ry h
  obtain ⟨a, b, xs, ys, rfl, rfl, ha, hb, hl, q⟩ := h
  refine op_catA pins s σ H _ _ v u Q I rx ry ⟨a, b, xs, ys, rfl, rfl, ha, hb, hl, fun e => ?_, fun _ e => ?_, fun _ _ p hp => q p _ (same_new hp) (SqT.of upd_same)⟩
  · subst e
    exact q b H (Same.refl H) (by simpa using hb)
  · subst e
    exact q a H (Same.refl H) (by simpa using ha)
def rSlU (K : PySem.W.Frag) : V → Option Int → Option Int → Hp → VK → Prop := fun x lo hi H Q => ∃ a xs, x = .ref a ∧ SqT K H a xs ∧ ∀ p H', Same H H' → SqT K H' p (cutV xs lo hi) → Q (.ref p) H'
theorem cut_whole {xs : List V} {lo hi : Option Int} (h : HT.sIx xs.length 0 lo = 0 ∧ HT.sIx xs.length xs.length hi = xs.length) : cutV xs lo hi = xs := by
  unfold cutV
  rw [h.1, h.2]
  simp
theorem sl_tupU : SlR X (rSlU X.K) := by
  intro pins s σ H x v vl vu lo hi sl Q I rx hs pl pu h
  obtain ⟨a, xs, rfl, hx, q⟩ := h
  exact sl_tupA pins s σ H _ v vl vu lo hi sl Q I rx hs pl pu ⟨a, xs, rfl, hx, fun w => q a H (Same.refl H) (by rw [cut_whole w]; exact hx), fun _ p hp => q p _ (same_new hp) (SqT.of upd_same)⟩
end
theorem hu64_of {A : Around} {k : Nat} (hr : Room k A) : A.units + 64 < cLine := by
  have := hr.un
  omega
/-! ### loops over enumerate, comprehensions over enumerate and zip -/
section
variable {K : PySem.W.Frag} {a b : Addr} {xs ys : List V} {g : TG} {tb : TS} {D : Ends} {σ : St} {H : Hp} {te : TE} {vs : List Nat} {H1 : Hp} {Dd : Addr} {Qd : Hp → Prop}
theorem for_enumT (Pv : Nat → St → Hp → Prop) (h0 : Pv 0 σ H) (hl : ∀ i σ H, i ≤ xs.length → Pv i σ H → SqT K H a xs)
    (hs : ∀ i x T σ H, xs[i]? = some x → Pv i σ H → H T = none → g (.ref T) σ (upd H T (.tup [.int (i : Nat), x])) fun σ2 H2 => tb { D with nx := Pv (i + 1), ct := Pv (i + 1), bk := D.nx } σ2 H2) (hd : ∀ σ H, Pv xs.length σ H → D.nx σ H) :
    ∃ W : Nat → Nat → St → Hp → Prop, (∃ m, W 0 m σ H) ∧ ∀ i m σ H, W i m σ H → ((IteT K a).stop i H ∧ D.nx σ H) ∨
      ((IteT K a).go i H ∧ ∃ N : St → Hp → Prop, (∀ σ' H', N σ' H' → ∃ m', m' < m ∧ W (i + 1) m' σ' H') ∧ ∀ x H', (IteT K a).yld i H x H' → g x σ H' fun σ2 H2 => tb { D with nx := N, ct := N, bk := D.nx } σ2 H2) := by
  refine ⟨fun i m σ H => m = xs.length - i ∧ i ≤ xs.length ∧ Pv i σ H, ⟨xs.length, by simp, Nat.zero_le _, h0⟩, ?_⟩
  rintro i m σ H ⟨rfl, hi, p⟩
  have q := hl i σ H hi p
  by_cases hlt : i < xs.length
  · refine .inr ⟨⟨xs, xs[i], q, by simp [hlt]⟩, Pv (i + 1), fun σ' H' p' => ⟨xs.length - (i + 1), by omega, rfl, hlt, p'⟩, fun v H' y => ?_⟩
    obtain ⟨T, x, rfl, hT, rfl, hx⟩ := y
    exact hs i x T σ H (hx xs q) p hT
  · obtain rfl : i = xs.length := by omega
    exact .inl ⟨⟨xs, q, rfl⟩, hd σ H p⟩
theorem for_enumL (Pv : Nat → St → Hp → Prop) (h0 : Pv 0 σ H) (hl : ∀ i σ H, i ≤ xs.length → Pv i σ H → SqL K H a xs)
    (hs : ∀ i x T σ H, xs[i]? = some x → Pv i σ H → H T = none → g (.ref T) σ (upd H T (.tup [.int (i : Nat), x])) fun σ2 H2 => tb { D with nx := Pv (i + 1), ct := Pv (i + 1), bk := D.nx } σ2 H2) (hd : ∀ σ H, Pv xs.length σ H → D.nx σ H) :
    ∃ W : Nat → Nat → St → Hp → Prop, (∃ m, W 0 m σ H) ∧ ∀ i m σ H, W i m σ H → ((Ite K a).stop i H ∧ D.nx σ H) ∨
      ((Ite K a).go i H ∧ ∃ N : St → Hp → Prop, (∀ σ' H', N σ' H' → ∃ m', m' < m ∧ W (i + 1) m' σ' H') ∧ ∀ x H', (Ite K a).yld i H x H' → g x σ H' fun σ2 H2 => tb { D with nx := N, ct := N, bk := D.nx } σ2 H2) := by
  refine ⟨fun i m σ H => m = xs.length - i ∧ i ≤ xs.length ∧ Pv i σ H, ⟨xs.length, by simp, Nat.zero_le _, h0⟩, ?_⟩
  rintro i m σ H ⟨rfl, hi, p⟩
  have q := hl i σ H hi p
  by_cases hlt : i < xs.length
  · refine .inr ⟨⟨xs, xs[i], q, by simp [hlt]⟩, Pv (i + 1), fun σ' H' p' => ⟨xs.length - (i + 1), by omega, rfl, hlt, p'⟩, fun v H' y => ?_⟩
    obtain ⟨T, x, rfl, hT, rfl, hx⟩ := y
    exact hs i x T σ H (hx xs q) p hT
  · obtain rfl : i = xs.length := by omega
    exact .inl ⟨⟨xs, q, Nat.le_refl _⟩, hd σ H p⟩
theorem lc_enumT (Pv : Nat → Hp → Prop) (h0 : Pv 0 (upd H1 Dd (.lst []))) (hl : ∀ i H, i ≤ xs.length → Pv i H → SqT K H a xs)
    (hs : ∀ i x T H, xs[i]? = some x → Pv i H → H T = none → g (.ref T) (wipe σ vs) (upd H T (.tup [.int (i : Nat), x])) fun σ2 H2 => wipe σ2 vs = wipe σ vs ∧
      te σ2 H2 fun y H4 => ∃ acc, H4 Dd = some (.lst acc) ∧ acc.length < sizeLine ∧ Pv (i + 1) (upd H4 Dd (.lst (acc ++ [y])))) (hd : ∀ H, Pv xs.length H → Qd H) :
    ∃ W : Nat → Nat → Hp → Prop, (∃ m, W 0 m (upd H1 Dd (.lst []))) ∧ ∀ i m H, W i m H →
      ((IteT K a).stop i H ∧ Qd H) ∨ ((IteT K a).go i H ∧ ∃ Nx : Hp → Prop, (∀ H', Nx H' → ∃ m', m' < m ∧ W (i + 1) m' H') ∧ ∀ x H', (IteT K a).yld i H x H' → g x (wipe σ vs) H' fun σ2 H2 => wipe σ2 vs = wipe σ vs ∧ tYes σ2 H2 fun b H3 =>
        if b = true then te σ2 H3 fun y H4 => ∃ acc, H4 Dd = some (.lst acc) ∧ acc.length < sizeLine ∧ Nx (upd H4 Dd (.lst (acc ++ [y]))) else Nx H3) := by
  refine ⟨fun i m H => m = xs.length - i ∧ i ≤ xs.length ∧ Pv i H, ⟨xs.length, by simp, Nat.zero_le _, h0⟩, ?_⟩
  rintro i m H ⟨rfl, hi, p⟩
  have q := hl i H hi p
  by_cases hlt : i < xs.length
  · refine .inr ⟨⟨xs, xs[i], q, by simp [hlt]⟩, Pv (i + 1), fun H' p' => ⟨xs.length - (i + 1), by omega, rfl, hlt, p'⟩, fun v H' y => ?_⟩
    obtain ⟨T, x, rfl, hT, rfl, hx⟩ := y
    exact hs i x T H (hx xs q) p hT
  · obtain rfl : i = xs.length := by omega
    exact .inl ⟨⟨xs, q, rfl⟩, hd H p⟩
theorem lc_zipM (Pv : Nat → Hp → Prop) (hlen : xs.length = ys.length) (h0 : Pv 0 (upd H1 Dd (.lst []))) (hl : ∀ i H, i ≤ xs.length → Pv i H → SqT K H a xs ∧ SqL K H b ys)
    (hs : ∀ i x y T H, xs[i]? = some x → ys[i]? = some y → Pv i H → H T = none → g (.ref T) (wipe σ vs) (upd H T (.tup [x, y])) fun σ2 H2 => wipe σ2 vs = wipe σ vs ∧
      te σ2 H2 fun z H4 => ∃ acc, H4 Dd = some (.lst acc) ∧ acc.length < sizeLine ∧ Pv (i + 1) (upd H4 Dd (.lst (acc ++ [z])))) (hd : ∀ H, Pv xs.length H → Qd H) :
    ∃ W : Nat → Nat → Hp → Prop, (∃ m, W 0 m (upd H1 Dd (.lst []))) ∧ ∀ i m H, W i m H →
      ((ItzM K a b).stop i H ∧ Qd H) ∨ ((ItzM K a b).go i H ∧ ∃ Nx : Hp → Prop, (∀ H', Nx H' → ∃ m', m' < m ∧ W (i + 1) m' H') ∧ ∀ x H', (ItzM K a b).yld i H x H' → g x (wipe σ vs) H' fun σ2 H2 => wipe σ2 vs = wipe σ vs ∧ tYes σ2 H2 fun b H3 =>
        if b = true then te σ2 H3 fun y H4 => ∃ acc, H4 Dd = some (.lst acc) ∧ acc.length < sizeLine ∧ Nx (upd H4 Dd (.lst (acc ++ [y]))) else Nx H3) := by
  refine ⟨fun i m H => m = xs.length - i ∧ i ≤ xs.length ∧ Pv i H, ⟨xs.length, by simp, Nat.zero_le _, h0⟩, ?_⟩
  rintro i m H ⟨rfl, hi, p⟩
  obtain ⟨q, q2⟩ := hl i H hi p
  by_cases hlt : i < xs.length
  · refine .inr ⟨⟨xs, ys, xs[i], ys[i]'(by omega), q, q2, by simp [hlt], by simp⟩, Pv (i + 1), fun H' p' => ⟨xs.length - (i + 1), by omega, rfl, hlt, p'⟩, fun v H' y => ?_⟩
    obtain ⟨T, x, y, rfl, hT, rfl, hx, hy⟩ := y
    exact hs i x y T H (hx xs q) (hy ys q2) p hT
  · obtain rfl : i = xs.length := by omega
    exact .inl ⟨⟨xs, ys, q, q2, by omega⟩, hd H p⟩
end
theorem map_get {α : Type} {f : α → V} {ns : List α} {i : Nat} {x : V} (h : (ns.map f)[i]? = some x) : ∃ n, ns[i]? = some n ∧ x = f n := by
  rw [List.getElem?_map] at h
  cases e : ns[i]? with
  | none => rw [e] at h; cases h
  | some n => rw [e] at h; exact ⟨n, rfl, (Option.some.inj h).symm⟩
theorem take_snoc {α : Type} {l : List α} {i : Nat} {x : α} (h : l[i]? = some x) : l.take (i + 1) = l.take i ++ [x] := by
  rw [List.take_add_one, h]
  rfl
end K77
end

section
set_option Elab.async false
set_option linter.all false
set_option maxRecDepth 100000
set_option maxHeartbeats 4000000
namespace K77
open PySem L2
/-! ### types of data -/
def tyN : D → String
  | .non => "NoneType"
  | .bl _ => "bool"
  | .int _ => "int"
  | .str _ => "str"
  | .tup _ => "tuple"
theorem tyx_tup {K : PySem.W.Frag} {H : Hp} {a : Addr} {xs : List V} (h : SqT K H a xs) : TyX K H (.ref a) (.type "tuple") := by
  rcases h with (h | ⟨o, h⟩) | ⟨o, its, n, e, c, _⟩
  · exact .base (.tup h)
  · exact .fTuple h
  · exact .kTuple e c
theorem tyx {K : PySem.W.Frag} {H : Hp} {v : V} {d : D} (h : Im K H v d) : TyX K H v (.type (tyN d)) := by
  cases h with
  | non => exact .base .non
  | bl b => exact .base (.bl b)
  | int i => exact .base (.int i)
  | str x => exact .base (.str x)
  | tup hs _ => exact tyx_tup hs
theorem isi_of {K : PySem.W.Frag} {H : Hp} {v : V} {d : D} {T : String} {b : Bool} {Q : VK} (h : Im K H v d) (hk : kitB (tyN d) T = some b) (q : Q (.bl b) H) : rIsi K [v, .ty T] H Q :=
  ⟨v, .ty T, .type (tyN d), .type T, b, rfl, ClsV.ty T, tyx h, kit_ty hk, q⟩
def isInt : D → Bool
  | .int _ => true
  | _ => false
def isNum : D → Bool
  | .int _ => true
  | .bl _ => true
  | _ => false
def isBl : D → Bool
  | .bl _ => true
  | _ => false
def isStr : D → Bool
  | .str _ => true
  | _ => false
def isTup : D → Bool
  | .tup _ => true
  | _ => false
theorem kit_int : ∀ d : D, kitB (tyN d) "int" = some (isNum d)
  | .non => (by decide +kernel : kitB "NoneType" "int" = some false)
  | .bl _ => (by decide +kernel : kitB "bool" "int" = some true)
  | .int _ => (by decide +kernel : kitB "int" "int" = some true)
  | .str _ => (by decide +kernel : kitB "str" "int" = some false)
  | .tup _ => (by decide +kernel : kitB "tuple" "int" = some false)
theorem kit_bool : ∀ d : D, kitB (tyN d) "bool" = some (isBl d)
  | .non => (by decide +kernel : kitB "NoneType" "bool" = some false)
  | .bl _ => (by decide +kernel : kitB "bool" "bool" = some true)
  | .int _ => (by decide +kernel : kitB "int" "bool" = some false)
  | .str _ => (by decide +kernel : kitB "str" "bool" = some false)
  | .tup _ => (by decide +kernel : kitB "tuple" "bool" = some false)
theorem kit_str : ∀ d : D, kitB (tyN d) "str" = some (isStr d)
  | .non => (by decide +kernel : kitB "NoneType" "str" = some false)
  | .bl _ => (by decide +kernel : kitB "bool" "str" = some false)
  | .int _ => (by decide +kernel : kitB "int" "str" = some false)
  | .str _ => (by decide +kernel : kitB "str" "str" = some true)
  | .tup _ => (by decide +kernel : kitB "tuple" "str" = some false)
theorem kit_tup : ∀ d : D, kitB (tyN d) "tuple" = some (isTup d)
  | .non => (by decide +kernel : kitB "NoneType" "tuple" = some false)
  | .bl _ => (by decide +kernel : kitB "bool" "tuple" = some false)
  | .int _ => (by decide +kernel : kitB "int" "tuple" = some false)
  | .str _ => (by decide +kernel : kitB "str" "tuple" = some false)
  | .tup _ => (by decide +kernel : kitB "tuple" "tuple" = some true)

section
variable {P : Program} {w : World} {K : PySem.W.Frag} {mg : Str → Option Value} {base : Heap}
/-! ### is_int -/
def spIsInt (K : PySem.W.Frag) : Sp := fun vs H Q _ => ∃ v d, vs = [v] ∧ Im K H v d ∧ Q (.bl (isInt d)) H
theorem ok_is_int (T : Tx P K mg) : FnOk P w K mg base CX0 1 T.is_int.f T.is_int.fd ["value"] (spIsInt K) := by
  refine T.is_int.F.ok sc_is_int (fun vs H Q E h => ?_) (fun cdv A outer s H vs Q E hr h => ?_)
  · obtain ⟨v, d, rfl, _⟩ := h
    rfl
  · obtain ⟨v, d, rfl, hd, q⟩ := h
    refine ⟨_, (pss_one (ps_ret (pe_and (pe_callB call_isi (by rfl) T.n_isinstance PyProof.Rows.boot_isinstance (pa_cons (pv 0) (pa_cons (pe_bltn (v := .ty "int") rfl T.n_int PyProof.Rows.boot_int rfl) pa_nil))) (pe_one (pe_not (pe_callB call_isi (by rfl) T.n_isinstance PyProof.Rows.boot_isinstance (pa_cons (pv 0) (pa_cons (pe_bltn (v := .ty "bool") rfl T.n_bool PyProof.Rows.boot_bool rfl) pa_nil)))))))), ?_⟩
    refine ⟨v, rfl, ?_⟩
    simp only [tCons, tC, tNil]
    show rIsi K [v, .ty "int"] H _
    refine isi_of hd (kit_int d) ⟨_, rfl, ?_⟩
    by_cases c : isNum d = true
    · rw [if_pos c]
      refine ⟨v, rfl, ?_⟩
      simp only [tCons, tC, tNil]
      show rIsi K [v, .ty "bool"] H _
      refine isi_of hd (kit_bool d) ⟨_, rfl, ?_⟩
      have e : isInt d = !isBl d := by cases d <;> first | rfl | cases c
      rw [e] at q
      exact q
    · rw [if_neg c]
      have e : isInt d = false := by cases d <;> first | rfl | exact absurd rfl c
      rw [e] at q
      exact q

/-! ### counted -/
theorem sev_len : ∀ (j n : Nat), n < 128 ^ (j + 1) → (sev n).length ≤ j + 1
  | j, n, h => by
    by_cases c : n < 128
    · rw [sev_lo c]; simp
    · rw [sev_hi c]
      cases j with
      | zero => simp at h; omega
      | succ j =>
        have q := sev_len j (n / 128) (by rw [Nat.pow_succ] at h; omega)
        simp only [List.length_cons]
        omega
termination_by j => j
def spCounted : Sp := fun vs H Q _ => ∃ n : Nat, vs = [.int n] ∧ n < 128 ^ 9 ∧ ∀ p H', H p = none → Same H H' → H' p = some (.lst ((sev n).map V.int)) → Q (.ref p) H'
theorem ok_counted (T : Tx P K mg) : FnOk P w K mg base CX0 1 T.counted.f T.counted.fd ["number"] spCounted := by
  refine T.counted.F.ok sc_counted (fun vs H Q E h => ?_) (fun cdv A outer s H vs Q E hr h => ?_)
  · obtain ⟨n, rfl, _⟩ := h
    rfl
  · obtain ⟨n, rfl, hn, q⟩ := h
    refine ⟨_, (pss_cons (ps_set (i := 1) sc_counted.nd rfl (by first | exact Or.inl rfl | exact Or.inr rfl) (pe_lst pa_nil))
      (pss_cons (ps_while PassesOwn.never (pt_cmpR op_gt (pv 0) pe_int (nomark _)) (pss_cons (ps_expr (pe_bm PySem.F.plainAttrs_list PySem.F.slot_list_append PySem.F.type_list_append mt_append (pv 1) (pa_cons (pe_op op_add (pe_op op_mod (pv 0) pe_int) pe_int) pa_nil)))
      (pss_one (ps_set (i := 0) sc_counted.nd rfl (by first | exact Or.inl rfl | exact Or.inr rfl) (pe_op op_fdiv (pv 0) pe_int)))))
      (pss_one (ps_ret (pe_op op_cat (pv 1) (pe_lst (pa_cons (pv 0) pa_nil))))))), ?_⟩
    refine ⟨Nat.zero_le _, fun p hp => ?_⟩
    have s1 : Same H (upd H p (.lst [])) := same_new hp
    have e1 : upd H p (.lst []) p = some (.lst []) := upd_same
    generalize upd H p (.lst []) = H1 at s1 e1 ⊢
    refine ⟨fun m σ H' => ∃ (k : Nat) (acc : List Int), k = m ∧ σ = [some (.int k), some (.ref p)] ∧ Same H H' ∧ H' p = some (.lst (acc.map V.int)) ∧ acc ++ sev k = sev n, ⟨n, n, [], rfl, rfl, s1, e1, rfl⟩, ?_⟩
    rintro m σ H' ⟨k, acc, rfl, rfl, s2, e2, ea⟩
    refine ⟨_, rfl, _, _, rfl, rfl, _, rfl, ?_⟩
    have hlen : acc.length + (sev k).length ≤ 9 := by
      have q1 := sev_len 8 n hn
      rw [← ea, List.length_append] at q1
      exact q1
    refine ite2 (fun c => ?_) (fun c => ?_)
    · have hk : ¬ k < 128 := by
        have := of_decide_eq_true c
        omega
      refine ⟨fun σ' H2 => σ' = [some (.int (k / 128 : Nat)), some (.ref p)] ∧ Same H H2 ∧ H2 p = some (.lst ((acc ++ [((k % 128 + 128 : Nat) : Int)]).map V.int)), ?_, ?_⟩
      · rintro σ' H2 ⟨rfl, s3, e3⟩
        refine ⟨k / 128, by omega, k / 128, acc ++ [((k % 128 + 128 : Nat) : Int)], rfl, rfl, s3, e3, ?_⟩
        rw [← ea, sev_hi hk, List.append_assoc]
        rfl
      · refine ⟨_, rfl, .inl ⟨rfl, _, SqL.of e2⟩, _, rfl, _, _, rfl, rfl, (by show (0 : Int) < 128; decide), _, _, rfl, rfl, p, _, _, rfl, rfl, e2, ?_, ?_⟩
        · rw [List.length_map, sizeLine_eq]
          omega
        · refine ⟨_, rfl, _, _, rfl, rfl, ⟨by decide, by decide⟩, rfl, Same.put s2 hp, ?_⟩
          rw [upd_same, List.map_append]
          congr 1
    · have hk : k < 128 := by
        have : ¬ (127 : Int) < (k : Int) := fun z => c (decide_eq_true z)
        omega
      rw [sev_lo hk] at ea
      refine ⟨_, rfl, _, rfl, (by show 1 ≤ sizeLine; decide), fun r hr' => ?_⟩
      have s3 : Same H' (upd H' r (.lst [.int k])) := same_new hr'
      refine ⟨p, r, _, _, rfl, rfl, s3 _ _ e2, upd_same, ?_, fun t ht => ?_⟩
      · rw [List.length_map, sizeLine_eq]
        simp
        omega
      · have s4 : Same H _ := s2.trans s3
        have ht' : H t = none := s4.free ht
        refine q t _ ht' (Same.put s4 ht') ?_
        rw [upd_same, ← ea, List.map_append]
        rfl
end
end K77
end

section
set_option Elab.async false
set_option linter.all false
set_option maxRecDepth 100000
set_option maxHeartbeats 4000000
namespace K77
open PySem L2
section
variable {P : Program} {w : World} {K : PySem.W.Frag} {mg : Str → Option Value} {base : Heap}
/-- a reader at a: octets o, it stands at k -/
structure Rd (K : PySem.W.Frag) (C a g : Addr) (H : Hp) (o : List Int) (k : Nat) : Prop where
  at_ : ∃ dx, H a = some (.ins C dx [("given", .ref g), ("spot", .int (k : Nat))])
  tup : SqT K H g (o.map V.int)
  ko : k ≤ o.length
  oc : Oct o
  cap : Cap 7 o
  sz : o.length ≤ 1000000
theorem Rd.noT {C a g : Addr} {H : Hp} {o : List Int} {k : Nat} (r : Rd K C a g H o k) : NoT H [a] := by
  obtain ⟨dx, e⟩ := r.at_
  exact noT_ins e noT_nil
theorem Rd.keep {C a g : Addr} {H H' : Hp} {o : List Int} {k : Nat} {S : List Addr} (r : Rd K C a g H o k) (b : But S H H') (n : NoT H S) (na : a ∉ S) : Rd K C a g H' o k := by
  obtain ⟨dx, e⟩ := r.at_
  exact ⟨⟨dx, b _ _ na e⟩, Tk.but b n _ _ r.tup, r.ko, r.oc, r.cap, r.sz⟩
theorem Rd.put {C a g : Addr} {H : Hp} {o : List Int} {k j : Nat} (r : Rd K C a g H o k) (h : j ≤ o.length) {dx : Addr} : Rd K C a g (upd H a (.ins C dx [("given", .ref g), ("spot", .int (j : Nat))])) o j :=
  ⟨⟨dx, upd_same⟩, Tk.but (But.upd (List.mem_singleton.mpr rfl)) r.noT _ _ r.tup, h, r.oc, r.cap, r.sz⟩
/-- what a reading gives or raises -/
structure RdP {α : Type} (K : PySem.W.Frag) (C CB a g : Addr) (H : Hp) (o : List Int) (r : Option α × Nat) (emb : α → V → Hp → Prop) (Q : VK) (E : XK) : Prop where
  ok : ∀ x k', r = (some x, k') → ∀ v H', But [a] H H' → Rd K C a g H' o k' → emb x v H' → Q v H'
  bad : ∀ k', r = (none, k') → ∀ d H', But [a] H H' → H' d = some (.xd [("at", .int (k' : Nat))]) → E (.ref CB) (some d) H'
def eI : Int → V → Hp → Prop := fun x v _ => v = .int x
def eS : Nat → V → Hp → Prop := fun x v _ => v = .str ⟨#[x]⟩
theorem RdP.bad' {α : Type} {C CB a g : Addr} {H : Hp} {o : List Int} {r : Option α × Nat} {emb : α → V → Hp → Prop} {Q : VK} {E : XK} (p : RdP K C CB a g H o r emb Q E) {k : Nat} {H1 : Hp} (b : But [a] H H1) (n : NoT H1 [a]) (ea : ∃ u, H1 a = some u) (e : r = (none, k)) :
    ∀ d, H1 d = none → E (.ref CB) (some d) (upd H1 d (.xd [("at", .int (k : Nat))])) := fun d hd => by
  obtain ⟨u, ea⟩ := ea
  have hda : d ≠ a := fun z => by rw [z, ea] at hd; cases hd
  refine p.bad k e d _ (But.put b ?_) upd_same
  exact b.back (by simpa using hda) hd
def oneR (o : List Int) (k : Nat) : Option Int × Nat := match o[k]? with
  | some x => (some x, k + 1)
  | none => (none, k)
def signR (o : List Int) (k : Nat) : Option Nat × Nat := match o[k]? with
  | some c => if 93 < c then (none, k + 1) else (some (sigs.getD c.toNat 0), k + 1)
  | none => (none, k)
def spOne (K : PySem.W.Frag) (C CB : Addr) : Sp := fun vs H Q E => ∃ a g o k, vs = [.ref a] ∧ Rd K C a g H o k ∧ RdP K C CB a g H o (oneR o k) eI Q E
theorem ok_one (T : Tx P K mg) : FnOk P w K mg base (CX P w) 1 T.Reader_one.f T.Reader_one.fd ["self"] (spOne K T.CReader T.CBadOctets) := by
  refine T.Reader_one.F.okX sc_Reader_one (fun vs H Q E h => ?_) (fun cdv A outer s H vs Q E hr h => ?_)
  · obtain ⟨a, g, o, k, rfl, _⟩ := h
    rfl
  · obtain ⟨a, g, o, k, rfl, rd, p⟩ := h
    obtain ⟨dx, ea⟩ := rd.at_
    refine ⟨_, (pss_cons (ps_if (pt_cmpR op_ge (pe_fld (pv 0) rfl) (pe_callB call_len_seq (by rfl) T.n_len PySem.boot_len (pa_cons (pe_fld (pv 0) rfl) pa_nil)) (nomark _)) (pss_one (ps_raiseOwn Own.plain_at rfl T.BadOctets hr (takes_of rfl rfl rfl rfl) (pa_cons (pe_fld (pv 0) rfl) pa_nil))) pss_nil)
      (pss_cons (ps_fldaug (pv 0) pe_int in_add)
      (pss_one (ps_ret (pe_ix ix_tup (pe_fld (pv 0) rfl) (pe_op op_sub (pe_fld (pv 0) rfl) pe_int) (fun _ _ => rfl)))))), ?_⟩
    refine ⟨.ref a, rfl, a, _, dx, _, .int (k : Nat), rfl, ea, T.Reader.cl, T.Reader_spot, rfl, .ref a, rfl, a, _, dx, _, .ref g, rfl, ea, T.Reader.cl, T.Reader_given, rfl, g, _, rfl, .inr rd.tup, _, _, rfl, rfl, _, rfl, ?_⟩
    refine ite2 (fun c => ?_) (fun c => ?_)
    · have hk : o.length ≤ k := by
        have := of_decide_eq_true c
        rw [List.length_map] at this
        omega
      have e : o[k]? = none := List.getElem?_eq_none hk
      exact ⟨.ref a, rfl, a, _, dx, _, .int (k : Nat), rfl, ea, T.Reader.cl, T.Reader_spot, rfl, _, rfl, p.bad' But.refl rd.noT ⟨_, ea⟩ (by unfold oneR; rw [e])⟩
    · have hk : k < o.length := by
        have : ¬ ((o.map V.int).length : Int) ≤ (k : Int) := fun z => c (decide_eq_true z)
        rw [List.length_map] at this
        omega
      have e : o[k]? = some o[k] := by simp [hk]
      have rd2 : Rd K T.CReader a g (upd H a (.ins T.CReader dx [("given", .ref g), ("spot", .int ((k + 1 : Nat) : Int))])) o (k + 1) := rd.put hk
      refine ⟨.ref a, rfl, a, _, dx, _, .int (k : Nat), rfl, ea, T.Reader.cl, T.Reader_spot, rfl, _, _, rfl, rfl, dx, _, ea, (by show (2 : Nat) < 1000; decide), ?_⟩
      have e2 : putF "spot" (V.int ((k : Int) + 1)) [("given", .ref g), ("spot", .int (k : Nat))] = ([("given", V.ref g), ("spot", .int ((k + 1 : Nat) : Int))] : List (Str × V)) := rfl
      rw [e2]
      refine ⟨.ref a, rfl, a, _, dx, _, .ref g, rfl, upd_same, T.Reader.cl, T.Reader_given, rfl, .ref a, rfl, a, _, dx, _, _, rfl, upd_same, T.Reader.cl, T.Reader_spot, rfl, _, _, rfl, rfl, g, _, _, .int o[k], rfl, rfl, rd2.tup, ?_, ?_⟩
      · have e3 : ((k + 1 : Nat) : Int) - 1 = (k : Nat) := by omega
        rw [e3]
        unfold atI ixN
        rw [if_pos (by omega), List.length_map, if_pos (by omega), Option.bind_some, Int.toNat_natCast, List.getElem?_map, e]
        rfl
      · exact p.ok _ _ (by unfold oneR; rw [e]) _ _ (But.upd (List.mem_singleton.mpr rfl)) rd2 rfl

theorem RdP.same {α : Type} {C CB a g : Addr} {H H1 : Hp} {o : List Int} {r : Option α × Nat} {emb : α → V → Hp → Prop} {Q : VK} {E : XK} (p : RdP K C CB a g H o r emb Q E) (b : But [a] H H1) : RdP K C CB a g H1 o r emb Q E :=
  ⟨fun x k' e v H' b' rd h => p.ok x k' e v H' (b.trans b') rd h, fun k' e d H' b' h => p.bad k' e d H' (b.trans b') h⟩
theorem vint_eq {x y : Int} (h : decide (V.int x = V.int y) = true) : x = y := by
  have := of_decide_eq_true h
  injection this
theorem vint_ne {x y : Int} (h : ¬ decide (V.int x = V.int y) = true) : x ≠ y := fun z => h (decide_eq_true (by rw [z]))
theorem in3 (t : Int) : (inV (.int t) [.int 0, .int 1, .int 2] = true) ↔ t = 0 ∨ t = 1 ∨ t = 2 := by
  unfold inV
  simp [List.any, eqV]
  omega
theorem in2 (t : Int) : (inV (.int t) [.int 3, .int 4] = true) ↔ t = 3 ∨ t = 4 := by
  unfold inV
  simp [List.any, eqV]
  omega
def oneS (c : Nat) : Str := ⟨#[c]⟩
theorem joinL_one : ∀ ss : List Nat, TL.joinL [] (ss.map fun c => [c]) = ss
  | [] => rfl
  | [c] => rfl
  | c :: d :: r => by
    have h := joinL_one (d :: r)
    show [c] ++ ([] ++ TL.joinL [] ((d :: r).map fun c => [c])) = _
    rw [h]
    rfl
theorem join_one (ss : List Nat) : Txt.join "" (ss.map oneS) = ⟨ss.toArray⟩ := by
  have h := SX.join_S [] (ss.map fun c => [c])
  rw [joinL_one, List.map_map] at h
  exact h
theorem lens_one (ss : List Nat) : ((ss.map oneS).map fun x => x.length).sum = ss.length := by
  induction ss with
  | nil => rfl
  | cons c r ih =>
    rw [List.map_cons, List.map_cons, List.sum_cons, ih]
    show 1 + r.length = r.length + 1
    omega
theorem signR_some {o : List Int} {k k' c : Nat} (h : signR o k = (some c, k')) : k' = k + 1 ∧ ∃ z, o[k]? = some z ∧ ¬ 93 < z ∧ c = sigs.getD z.toNat 0 := by
  unfold signR at h
  split at h
  · rename_i z ez
    by_cases hz : 93 < z
    · rw [if_pos hz] at h; injection h with q1 q2; cases q1
    · rw [if_neg hz] at h
      injection h with q1 q2
      injection q1 with q1
      exact ⟨q2.symm, z, ez, hz, q1.symm⟩
  · injection h with q1 q2; cases q1
theorem signR_none {o : List Int} {k k' : Nat} (h : signR o k = (none, k')) : (o[k]? = none ∧ k' = k) ∨ ∃ z, o[k]? = some z ∧ 93 < z ∧ k' = k + 1 := by
  unfold signR at h
  split at h
  · rename_i z ez
    by_cases hz : 93 < z
    · rw [if_pos hz] at h
      injection h with q1 q2
      exact .inr ⟨z, ez, hz, q2.symm⟩
    · rw [if_neg hz] at h; injection h with q1 q2; cases q1
  · rename_i ez
    injection h with q1 q2
    exact .inl ⟨ez, q2.symm⟩
theorem txtR_acc {n : Nat} {l : List Int} {k : Nat} {acc ss : List Nat} {k' : Nat} : txtR n l k acc = (some ss, k') → ss.length = acc.length + n := by
  induction n generalizing l k acc with
  | zero =>
    intro h
    have : (some acc, k) = (some ss, k') := by simpa [txtR] using h
    injection this with h1 h2
    injection h1 with h1
    rw [h1]
    rfl
  | succ n ih =>
    intro h
    cases l with
    | nil => simp [txtR] at h
    | cons c r =>
      unfold txtR at h
      split at h
      · injection h with h1 h2
        cases h1
      · have := ih h
        rw [List.length_append] at this
        simp at this
        omega
theorem oneR_get {o : List Int} {k : Nat} {x : Int} {k' : Nat} (h : oneR o k = (some x, k')) : o[k]? = some x ∧ k' = k + 1 := by
  unfold oneR at h
  cases e : o[k]? with
  | none => rw [e] at h; injection h with h1 h2; cases h1
  | some y => rw [e] at h; injection h with h1 h2; injection h1 with h1; exact ⟨by rw [h1], h2.symm⟩
theorem oneR_end {o : List Int} {k k' : Nat} (h : oneR o k = (none, k')) : o[k]? = none ∧ k' = k := by
  unfold oneR at h
  cases e : o[k]? with
  | none => rw [e] at h; injection h with h1 h2; exact ⟨rfl, h2.symm⟩
  | some y => rw [e] at h; injection h with h1 h2; cases h1
theorem drop_get {o : List Int} {k : Nat} {x : Int} (h : o[k]? = some x) : o.drop k = x :: o.drop (k + 1) := by
  obtain ⟨hl, e⟩ := List.getElem?_eq_some_iff.mp h
  rw [List.drop_eq_getElem_cons hl, e]
theorem drop_none {o : List Int} {k : Nat} (h : o[k]? = none) : o.drop k = [] := List.drop_eq_nil_of_le (List.getElem?_eq_none_iff.mp h)
def spNumber (K : PySem.W.Frag) (C CB : Addr) : Sp := fun vs H Q E => ∃ a g o k, vs = [.ref a] ∧ Rd K C a g H o k ∧ RdP K C CB a g H o (num o k) eI Q E
theorem ok_number (T : Tx P K mg) (G_Reader_one : FnOk P w K mg base (CX P w) 1 T.Reader_one.f T.Reader_one.fd ["self"] (spOne K T.CReader T.CBadOctets)) :
    FnOk P w K mg base (CX P w) 2 T.Reader_number.f T.Reader_number.fd ["self"] (spNumber K T.CReader T.CBadOctets) := by
  refine T.Reader_number.F.okX sc_Reader_number (fun vs H Q E h => ?_) (fun cdv A outer s H vs Q E hr h => ?_)
  · obtain ⟨a, g, o, k, rfl, _⟩ := h
    rfl
  · obtain ⟨a, g, o, k0, rfl, rd, p⟩ := h
    obtain ⟨dx, ea⟩ := rd.at_
    refine ⟨_, (pss_cons (ps_par3 (i := 1) (j := 2) (l := 3) rfl sc_Reader_number.nd rfl rfl rfl (by decide) (by decide) (by decide) rfl rfl rfl (pa_cons pe_int (pa_cons pe_int (pa_cons (pe_meth0 (pv 0) T.Reader.cl T.Reader_one.mt G_Reader_one (hr.mono (by decide)) T.Reader_one.b .nil (passes_call (takes_of rfl rfl rfl rfl) (fun _ _ _ _ h => h))) pa_nil))) (by rfl))
      (pss_cons (ps_while (passes_of rfl) (pt_cmpR op_gt (pv 3) pe_int (nomark _)) (pss_cons (ps_par (i := 1) (j := 2) rfl sc_Reader_number.nd rfl rfl (by decide) rfl rfl (pa_cons (pe_op op_add (pv 1) (pe_op op_mul (pe_op op_sub (pv 3) pe_int) (pv 2))) (pa_cons (pe_op op_mul (pv 2) pe_int) pa_nil)) (by rfl))
      (pss_one (ps_set (i := 3) sc_Reader_number.nd rfl (by first | exact Or.inl rfl | exact Or.inr rfl) (pe_meth0 (pv 0) T.Reader.cl T.Reader_one.mt G_Reader_one (hr.mono (by decide)) T.Reader_one.b .nil (passes_call (takes_of rfl rfl rfl rfl) (fun _ _ _ _ h => h)))))))
      (pss_cons (ps_if (PW.pt (pw_and (pt_cmpR op_eq (pv 3) pe_int (nomark _)) (pw_and1 (pt_cmpR op_gt (pv 2) pe_int (nomark _))))) (pss_one (ps_raiseOwn Own.plain_at rfl T.BadOctets hr (takes_of rfl rfl rfl rfl) (pa_cons (pe_fld (pv 0) rfl) pa_nil))) pss_nil)
      (pss_one (ps_ret (pe_op op_add (pv 1) (pe_op op_mul (pv 3) (pv 2)))))))), ?_⟩
    refine ⟨.ref a, rfl, a, dx, _, rfl, ea, rfl, a, g, o, k0, rfl, rd, ⟨fun x k1 e1 v H1 b1 rd1 hv => ?_, fun k1 e1 d H1 b1 hd => ?_⟩⟩
    · obtain ⟨g1, rfl⟩ := oneR_get e1
      obtain rfl : v = .int x := hv
      refine ⟨_, _, _, rfl, ?_⟩
      refine ⟨fun m σ H' => ∃ (tot tm x : Int) (j : Nat), m = o.length - j ∧ σ = [some (.ref a), some (.int tot), some (.int tm), some (.int x)] ∧ But [a] H H' ∧ Rd K T.CReader a g H' o (j + 1) ∧ o[j]? = some x ∧ sevR (o.drop j) tot tm j = num o k0,
        ⟨_, 0, 1, x, k0, rfl, rfl, b1, rd1, g1, rfl⟩, ?_⟩
      rintro m σ H2 ⟨tot, tm, y, j, rfl, rfl, b2, rd2, g2, e2⟩
      obtain ⟨dx2, ea2⟩ := rd2.at_
      have hy0 := rd2.oc y (List.mem_of_getElem? g2)
      rw [drop_get g2] at e2
      refine ⟨_, rfl, _, _, rfl, rfl, _, rfl, ?_⟩
      refine ite2 (fun c => ?_) (fun c => ?_)
      · have hy : 127 < y := of_decide_eq_true c
        unfold sevR at e2
        rw [if_pos hy] at e2
        refine ⟨fun σ' H3 => ∃ x, σ' = [some (.ref a), some (.int (tot + (y - 128) * tm)), some (.int (tm * 128)), some (.int x)] ∧ But [a] H H3 ∧ Rd K T.CReader a g H3 o (j + 2) ∧ o[j + 1]? = some x, ?_, ?_⟩
        · rintro σ' H3 ⟨x3, rfl, b3, rd3, g3⟩
          have hj := (List.getElem?_eq_some_iff.mp g3).1
          exact ⟨o.length - (j + 1), by omega, _, _, x3, j + 1, rfl, rfl, b3, rd3, g3, e2⟩
        · refine ⟨_, rfl, _, rfl, _, _, rfl, rfl, _, rfl, _, _, rfl, rfl, .inl ⟨by omega, by omega⟩, _, _, rfl, rfl, _, rfl, _, _, rfl, rfl, .inr ⟨by decide, by decide⟩, _, _, rfl, ?_⟩
          refine ⟨.ref a, rfl, a, dx2, _, rfl, ea2, rfl, a, g, o, j + 1, rfl, rd2, ⟨fun x k1 e1 v H3 b3 rd3 hv => ?_, fun k1 e1 d H3 b3 hd => ?_⟩⟩
          · obtain ⟨g3, rfl⟩ := oneR_get e1
            obtain rfl : v = .int x := hv
            exact ⟨x, rfl, b2.trans b3, rd3, g3⟩
          · obtain ⟨g3, rfl⟩ := oneR_end e1
            rw [drop_none g3] at e2
            exact p.bad _ e2.symm d H3 (b2.trans b3) hd
      · have hy : ¬ 127 < y := fun z => c (decide_eq_true z)
        unfold sevR at e2
        rw [if_neg hy] at e2
        refine ⟨_, rfl, rfl, _, rfl, ?_⟩
        have fin2 : ∀ n, (some n, j + 1) = num o k0 → n = tot + y * tm → (tSeq (fun D σ H => D.nx σ H) (tRet (tOp (rI0 fun i j => V.int (i + j)) (tVar 1) (tOp (rI CMul fun i j => V.int (i * j)) (tVar 3) (tVar 2))))) { nx := fun x H' => Q V.non H', rt := Q } [some (.ref a), some (.int tot), some (.int tm), some (.int y)] H2 := fun n e3 e4 => by
          refine ⟨_, rfl, _, rfl, _, rfl, _, _, rfl, rfl, .inl ⟨by omega, by omega⟩, _, _, rfl, rfl, ?_⟩
          exact p.ok _ _ e3.symm _ _ b2 rd2 (by rw [e4]; rfl)
        refine ite2 (fun c1 => ?_) (fun c1 => ?_)
        · obtain rfl := vint_eq c1
          refine ⟨_, rfl, _, _, rfl, rfl, _, rfl, ?_⟩
          refine ite2 (fun c2 => ?_) (fun c2 => ?_)
          · rw [if_pos ⟨rfl, of_decide_eq_true c2⟩] at e2
            exact ⟨.ref a, rfl, a, _, dx2, _, .int ((j + 1 : Nat) : Int), rfl, ea2, T.Reader.cl, T.Reader_spot, rfl, _, rfl, p.bad' b2 rd2.noT ⟨_, ea2⟩ e2.symm⟩
          · rw [if_neg (fun z => c2 (decide_eq_true z.2))] at e2
            exact fin2 _ e2 rfl
        · rw [if_neg (fun z => vint_ne c1 z.1)] at e2
          exact fin2 _ e2 rfl
    · obtain ⟨g1, rfl⟩ := oneR_end e1
      refine p.bad _ ?_ d H1 b1 hd
      unfold num
      rw [drop_none g1]
      rfl

theorem sigS_len : sigS.length = 94 := by decide
theorem sigS_get {c : Int} (h0 : 0 ≤ c) (h : c ≤ 93) : sigS.cps[c.toNat]? = some (sigs.getD c.toNat 0) := by
  have hl : c.toNat < sigs.length := by rw [sigs_len]; omega
  show sigs.toArray[c.toNat]? = _
  rw [List.getElem?_toArray, List.getD_eq_getElem?_getD, List.getElem?_eq_getElem hl]
  rfl
def spSign (K : PySem.W.Frag) (C CB : Addr) : Sp := fun vs H Q E => ∃ a g o k, vs = [.ref a] ∧ Rd K C a g H o k ∧ RdP K C CB a g H o (signR o k) eS Q E
theorem ok_sign (T : Tx P K mg) (G_Reader_one : FnOk P w K mg base (CX P w) 1 T.Reader_one.f T.Reader_one.fd ["self"] (spOne K T.CReader T.CBadOctets)) :
    FnOk P w K mg base (CX P w) 2 T.Reader_sign.f T.Reader_sign.fd ["self"] (spSign K T.CReader T.CBadOctets) := by
  refine T.Reader_sign.F.okX sc_Reader_sign (fun vs H Q E h => ?_) (fun cdv A outer s H vs Q E hr h => ?_)
  · obtain ⟨a, g, o, k, rfl, _⟩ := h
    rfl
  · obtain ⟨a, g, o, k0, rfl, rd, p⟩ := h
    obtain ⟨dx, ea⟩ := rd.at_
    refine ⟨_, (pss_cons (ps_set (i := 1) sc_Reader_sign.nd rfl (by first | exact Or.inl rfl | exact Or.inr rfl) (pe_meth0 (pv 0) T.Reader.cl T.Reader_one.mt G_Reader_one (hr.mono (by decide)) T.Reader_one.b .nil (passes_call (takes_of rfl rfl rfl rfl) (fun _ _ _ _ h => h))))
      (pss_cons (ps_if (pt_cmpR op_ge (pv 1) (pe_callB call_len_str (by rfl) T.n_len PySem.boot_len (pa_cons (C8.pe_gc rfl T.c_SIGNS) pa_nil)) (nomark _)) (pss_one (ps_raiseOwn Own.plain_at rfl T.BadOctets hr (takes_of rfl rfl rfl rfl) (pa_cons (pe_fld (pv 0) rfl) pa_nil))) pss_nil)
      (pss_one (ps_ret (pe_item_str (C8.pe_gc rfl T.c_SIGNS) (pv 1) (fun _ _ => rfl)))))), ?_⟩
    refine ⟨.ref a, rfl, a, dx, _, rfl, ea, rfl, a, g, o, k0, rfl, rd, ⟨fun x k1 e1 v H1 b1 rd1 hv => ?_, fun k1 e1 d H1 b1 hd => ?_⟩⟩
    · obtain ⟨g1, rfl⟩ := oneR_get e1
      obtain rfl : v = .int x := hv
      have hx0 := rd.oc x (List.mem_of_getElem? g1)
      obtain ⟨dx1, ea1⟩ := rd1.at_
      refine ⟨_, rfl, _, rfl, (by rw [sigS_len]; decide), _, _, rfl, rfl, _, rfl, ?_⟩
      refine ite2 (fun c => ?_) (fun c => ?_)
      · have hx : 93 < x := by
          have := of_decide_eq_true c
          rw [sigS_len] at this
          omega
        exact ⟨.ref a, rfl, a, _, dx1, _, .int ((k0 + 1 : Nat) : Int), rfl, ea1, T.Reader.cl, T.Reader_spot, rfl, _, rfl, p.bad' b1 rd1.noT ⟨_, ea1⟩ (by unfold signR; rw [g1]; exact if_pos hx)⟩
      · have hx : ¬ 93 < x := fun z => c (decide_eq_true (by rw [sigS_len]; omega))
        refine ⟨_, rfl, _, _, _, rfl, rfl, by omega, by omega, by rw [sigS_len]; omega, sigS_get hx0.1 (by omega), ?_⟩
        exact p.ok _ _ (by unfold signR; rw [g1]; exact if_neg hx) _ _ b1 rd1 rfl
    · obtain ⟨g1, rfl⟩ := oneR_end e1
      refine p.bad _ ?_ d H1 b1 hd
      unfold signR
      rw [g1]
/-! ### plain_part -/
def eD (K : PySem.W.Frag) : D → V → Hp → Prop := fun d v H => Im K H v d
def spPlain (K : PySem.W.Frag) (C CB : Addr) : Sp := fun vs H Q E => ∃ a g o k tag, vs = [.ref a, .int tag] ∧ Rd K C a g H o k ∧ 0 ≤ tag ∧ RdP K C CB a g H o (part o tag k) (eD K) Q E
theorem ok_plain (T : Tx P K mg) (G_Reader_number : FnOk P w K mg base (CX P w) 2 T.Reader_number.f T.Reader_number.fd ["self"] (spNumber K T.CReader T.CBadOctets)) (G_Reader_sign : FnOk P w K mg base (CX P w) 2 T.Reader_sign.f T.Reader_sign.fd ["self"] (spSign K T.CReader T.CBadOctets)) :
    FnOk P w K mg base (CX P w) 3 T.plain_part.f T.plain_part.fd ["reader", "tag"] (spPlain K T.CReader T.CBadOctets) := by
  refine T.plain_part.F.okX sc_plain_part (fun vs H Q E h => ?_) (fun cdv A outer s H vs Q E hr h => ?_)
  · obtain ⟨a, g, o, k, tag, rfl, _⟩ := h
    rfl
  · obtain ⟨a, g, o, k0, tag, rfl, rd, ht, p⟩ := h
    obtain ⟨dx, ea⟩ := rd.at_
    refine ⟨_, (pss_cons (ps_if (pt_cmpR op_in_seq (pv 1) (pe_tup (pa_cons (C8.pe_gc rfl T.c_NONE) (pa_cons (C8.pe_gc rfl T.c_NO) (pa_cons (C8.pe_gc rfl T.c_YES) pa_nil)))) (by rfl)) (pss_one (ps_ret (pe_ix ix_tup (pe_tup (pa_cons pe_non (pa_cons pe_bl (pa_cons pe_bl pa_nil)))) (pv 1) (fun _ _ => rfl)))) pss_nil)
      (pss_cons (ps_if (pt_cmpR op_in_seq (pv 1) (pe_tup (pa_cons (C8.pe_gc rfl T.c_UP) (pa_cons (C8.pe_gc rfl T.c_DOWN) pa_nil))) (by rfl)) (pss_cons (ps_set (i := 2) sc_plain_part.nd rfl (by first | exact Or.inl rfl | exact Or.inr rfl) (pe_meth0 (pv 0) T.Reader.cl T.Reader_number.mt G_Reader_number (hr.mono (by decide)) T.Reader_number.b .nil (passes_call (takes_of rfl rfl rfl rfl) (fun _ _ _ _ h => h))))
      (pss_cons (ps_if (PW.pt (pw_and (pt_cmpR op_eq (pv 1) (C8.pe_gc rfl T.c_DOWN) (nomark _)) (pw_and1 (pt_cmpR op_eq (pv 2) pe_int (nomark _))))) (pss_one (ps_raiseOwn Own.plain_at rfl T.BadOctets hr (takes_of rfl rfl rfl rfl) (pa_cons (pe_fld (pv 0) rfl) pa_nil))) pss_nil)
      (pss_one (ps_ret (pe_ifExp (pt_cmpR op_eq (pv 1) (C8.pe_gc rfl T.c_UP) (nomark _)) (pv 2) (pe_op op_sub pe_int (pv 2))))))) pss_nil)
      (pss_cons (ps_if (pt_cmpR op_ne (pv 1) (C8.pe_gc rfl T.c_TEXT) (nomark _)) (pss_one (ps_raiseOwn Own.plain_at rfl T.BadOctets hr (takes_of rfl rfl rfl rfl) (pa_cons (pe_fld (pv 0) rfl) pa_nil))) pss_nil)
      (pss_one (ps_ret (pe_join pe_str (pe_lcX (W := fun cls d _ H => E cls d H) (te := _) (own := [("turn", 3)]) (g := gName 3) rfl sc_plain_part.nd rfl rfl (takes_of rfl rfl rfl rfl) (pi_range1 (by rfl) T.n_range (pa_cons (pe_meth0 (pv 0) T.Reader.cl T.Reader_number.mt G_Reader_number (hr.mono (by decide)) T.Reader_number.b .nil (passes_call (takes_of rfl rfl rfl rfl) (fun _ _ _ _ h => h))) pa_nil)) (blkOk_by (N := ["reader", "tag", "number", "turn"]) (sc := defScope s_plain_part) (by decide +kernel)) (fun _ _ _ _ _ => (pg_name (i := 3) sc_plain_part.nd rfl (by first | exact Or.inl rfl | exact Or.inr rfl))) (fun _ _ _ _ _ E hx => (pe_meth0 (pv 0) T.Reader.cl T.Reader_sign.mt G_Reader_sign (hr.mono (by decide)) T.Reader_sign.b .nil hx))))))))), ?_⟩
    refine ⟨_, rfl, (by show 3 ≤ sizeLine; decide), fun t1 ht1 => ?_⟩
    have s1 : Same H (upd H t1 (.tup [.int 0, .int 1, .int 2])) := same_new ht1
    have e1 : upd H t1 (.tup [.int 0, .int 1, .int 2]) t1 = some (.tup [.int 0, .int 1, .int 2]) := upd_same
    generalize upd H t1 (.tup [.int 0, .int 1, .int 2]) = H1 at s1 e1 ⊢
    refine ⟨t1, _, rfl, .inr (SqT.of e1), rfl, rfl, _, rfl, ?_⟩
    have rd1 := rd.keep (S := []) (But.of s1) noT_nil (by simp)
    have c3 : (inV (.int tag) [.int 0, .int 1, .int 2] = true) ↔ tag = 0 ∨ tag = 1 ∨ tag = 2 := in3 tag
    refine ite2 (fun c => ?_) (fun c => ?_)
    · refine ⟨(by show 3 ≤ sizeLine; decide), fun t2 ht2 => ?_⟩
      have s2 : Same H1 (upd H1 t2 (.tup [.non, .bl false, .bl true])) := same_new ht2
      have e2 : upd H1 t2 (.tup [.non, .bl false, .bl true]) t2 = some (.tup [.non, .bl false, .bl true]) := upd_same
      generalize upd H1 t2 (.tup [.non, .bl false, .bl true]) = H2 at s2 e2 ⊢
      have rd2 := rd1.keep (S := []) (But.of s2) noT_nil (by simp)
      have b2 : But [a] H H2 := But.of (s1.trans s2)
      rcases c3.mp c with rfl | rfl | rfl
      · exact ⟨_, rfl, t2, _, _, .non, rfl, rfl, SqT.of e2, rfl, p.ok .non k0 rfl _ _ b2 rd2 .non⟩
      · exact ⟨_, rfl, t2, _, _, .bl false, rfl, rfl, SqT.of e2, rfl, p.ok (.bl false) k0 rfl _ _ b2 rd2 (.bl false)⟩
      · exact ⟨_, rfl, t2, _, _, .bl true, rfl, rfl, SqT.of e2, rfl, p.ok (.bl true) k0 rfl _ _ b2 rd2 (.bl true)⟩
    · have n3 : ¬ (tag = 0 ∨ tag = 1 ∨ tag = 2) := fun z => c (c3.mpr z)
      refine ⟨_, rfl, (by show 2 ≤ sizeLine; decide), fun t2 ht2 => ?_⟩
      have s2 : Same H1 (upd H1 t2 (.tup [.int 3, .int 4])) := same_new ht2
      have e2 : upd H1 t2 (.tup [.int 3, .int 4]) t2 = some (.tup [.int 3, .int 4]) := upd_same
      generalize upd H1 t2 (.tup [.int 3, .int 4]) = H2 at s2 e2 ⊢
      have rd2 := rd1.keep (S := []) (But.of s2) noT_nil (by simp)
      have b2 : But [a] H H2 := But.of (s1.trans s2)
      obtain ⟨dx2, ea2⟩ := rd2.at_
      refine ⟨t2, _, rfl, .inr (SqT.of e2), rfl, rfl, _, rfl, ?_⟩
      have c2 : (inV (.int tag) [.int 3, .int 4] = true) ↔ tag = 3 ∨ tag = 4 := in2 tag
      refine ite2 (fun c4 => ?_) (fun c4 => ?_)
      · have h34 := c2.mp c4
        unfold part at p
        rw [if_neg (by omega), if_neg (by omega), if_neg (by omega), if_pos h34] at p
        refine ⟨.ref a, rfl, a, dx2, _, rfl, ea2, rfl, a, g, o, k0, rfl, rd2, ⟨fun x k3 e3 v H3 b3 rd3 hv => ?_, fun k3 e3 d H3 b3 hd => ?_⟩⟩
        · obtain rfl : v = .int x := hv
          obtain ⟨dx3, ea3⟩ := rd3.at_
          rw [e3] at p
          replace p : RdP K T.CReader T.CBadOctets a g H o (if tag = 4 ∧ x = 0 then ((none : Option D), k3) else (some (.int (if tag = 3 then x else 0 - x)), k3)) (eD K) Q E := p
          refine ⟨_, rfl, rfl, _, rfl, ?_⟩
          have last : ¬ (tag = 4 ∧ x = 0) → (tIf (tTest (tOp rEq (tVar 1) (tC (.int 3)))) (tVar 2) (tOp (rI0 fun i j => .int (i - j)) (tC (.int 0)) (tVar 2))) [some (.ref a), some (.int tag), some (.int x), none] H3 Q := fun hc => by
            rw [if_neg hc] at p
            refine ⟨_, rfl, rfl, _, rfl, ?_⟩
            refine ite2 (fun c5 => ?_) (fun c5 => ?_)
            · obtain rfl := vint_eq c5
              exact ⟨_, rfl, p.ok _ _ rfl _ _ (b2.trans b3) rd3 (by rw [if_pos rfl]; exact .int x)⟩
            · exact ⟨_, rfl, _, _, rfl, rfl, p.ok _ _ rfl _ _ (b2.trans b3) rd3 (by rw [if_neg (vint_ne c5)]; exact .int _)⟩
          refine ite2 (fun c5 => ?_) (fun c5 => ?_)
          · obtain rfl := vint_eq c5
            refine ⟨_, rfl, rfl, _, rfl, ?_⟩
            refine ite2 (fun c6 => ?_) (fun c6 => ?_)
            · obtain rfl := vint_eq c6
              rw [if_pos ⟨rfl, rfl⟩] at p
              exact ⟨.ref a, rfl, a, _, dx3, _, .int (k3 : Nat), rfl, ea3, T.Reader.cl, T.Reader_spot, rfl, _, rfl, p.bad' (b2.trans b3) rd3.noT ⟨_, ea3⟩ rfl⟩
            · exact last fun z => vint_ne c6 z.2
          · exact last fun z => vint_ne c5 z.1
        · rw [e3] at p
          exact p.bad k3 rfl d H3 (b2.trans b3) hd
      · have h34 : ¬ (tag = 3 ∨ tag = 4) := fun z => c4 (c2.mpr z)
        refine ⟨_, rfl, rfl, _, rfl, ?_⟩
        refine ite2 (fun c5 => ?_) (fun c5 => ?_)
        · have h5 : tag ≠ 5 := by
            have : ¬ V.int tag = V.int 5 := by simpa using c5
            exact fun z => this (by rw [z])
          have ep : part o tag k0 = (none, k0) := by
            unfold part
            rw [if_neg (by omega), if_neg (by omega), if_neg (by omega), if_neg h34, if_pos h5]
          exact ⟨.ref a, rfl, a, _, dx2, _, .int (k0 : Nat), rfl, ea2, T.Reader.cl, T.Reader_spot, rfl, _, rfl, p.bad' b2 rd2.noT ⟨_, ea2⟩ ep⟩
        · have h5 : tag = 5 := by
            have : V.int tag = V.int 5 := by simpa using c5
            injection this
          subst h5
          unfold part at p
          rw [if_neg (by omega), if_neg (by omega), if_neg (by omega), if_neg h34, if_neg (by omega)] at p
          refine ⟨⟨_, rfl⟩, ?_⟩
          refine ⟨.ref a, rfl, a, dx2, _, rfl, ea2, rfl, a, g, o, k0, rfl, rd2, ⟨fun x k3 e3 v H3 b3 rd3 hv => ?_, fun k3 e3 d H3 b3 hd => ?_⟩⟩
          · obtain rfl : v = .int x := hv
            rw [e3] at p
            have hx1 := num_nonneg rd.oc e3
            have hx2 := num_small rd.oc rd.cap e3
            have b03 := b2.trans b3
            refine ⟨x, rfl, by omega, by omega, fun D hD => ?_⟩
            have s4 : Same H3 (upd H3 D (.lst [])) := same_new hD
            have e4 : upd H3 D (.lst []) D = some (.lst []) := upd_same
            generalize upd H3 D (.lst []) = H4 at s4 e4 ⊢
            have rd4 := rd3.keep (S := []) (But.of s4) noT_nil (by simp)
            have hDa : D ≠ a := fun z => by
              obtain ⟨dz, ez⟩ := rd3.at_
              rw [z, ez] at hD
              cases hD
            have hDH : H D = none := b03.back (by simpa using hDa) hD
            refine ⟨fun i m H5 => ∃ (k5 : Nat) (ss : List Nat), m = x.toNat - i ∧ ss.length = i ∧ i ≤ x.toNat ∧ k5 = k3 + i ∧ But [a] H H5 ∧ Rd K T.CReader a g H5 o k5 ∧ H5 D = some (.lst ((ss.map oneS).map V.str)) ∧
              txtR (x.toNat - i) (o.drop k5) k5 ss = txtR x.toNat (o.drop k3) k3 [], ⟨_, k3, [], rfl, rfl, Nat.zero_le _, rfl, b03.trans (But.of s4), rd4, e4, rfl⟩, ?_⟩
            rintro i m H5 ⟨k5, ss, rfl, hl, hi, hk5, b5, rd5, e5, et⟩
            by_cases hlt : i < x.toNat
            · refine .inr ⟨hlt, fun H6 => ∃ (k6 : Nat) (ss : List Nat), ss.length = i + 1 ∧ k6 = k3 + (i + 1) ∧ But [a] H H6 ∧ Rd K T.CReader a g H6 o k6 ∧ H6 D = some (.lst ((ss.map oneS).map V.str)) ∧
                txtR (x.toNat - (i + 1)) (o.drop k6) k6 ss = txtR x.toNat (o.drop k3) k3 [], ?_, ?_⟩
              · rintro H6 ⟨k6, ss6, hl6, hk6, b6, rd6, e6, et6⟩
                exact ⟨x.toNat - (i + 1), by omega, k6, ss6, rfl, hl6, hlt, hk6, b6, rd6, e6, et6⟩
              · rintro v H' ⟨rfl, rfl⟩
                refine ⟨rfl, ?_⟩
                obtain ⟨dx5, ea5⟩ := rd5.at_
                have en : x.toNat - i = (x.toNat - (i + 1)) + 1 := by omega
                rw [en] at et
                refine ⟨.ref a, rfl, a, dx5, _, rfl, ea5, rfl, a, g, o, k5, rfl, rd5, ⟨fun c k6 e6 v H6 b6 rd6 hv => ?_, fun k6 e6 d H6 b6 hd => ?_⟩⟩
                · obtain rfl : v = .str (oneS c) := hv
                  have h6D : H6 D = some (.lst ((ss.map oneS).map V.str)) := b6 _ _ (by simpa using hDa) e5
                  have hk := signR_some e6
                  obtain ⟨rfl, z, ez, hz, rfl⟩ := hk
                  have hzl := (List.getElem?_eq_some_iff.mp ez).1
                  refine ⟨_, h6D, ?_, k5 + 1, ss ++ [sigs.getD z.toNat 0], by simp [hl], by omega, But.put (b5.trans b6) hDH, rd6.keep (S := [D]) (But.upd (List.mem_singleton.mpr rfl)) (noT_lst h6D noT_nil) (by simpa using hDa.symm), ?_, ?_⟩
                  · have := rd.sz
                    rw [List.length_map, List.length_map, sizeLine_eq]
                    omega
                  · rw [upd_same, List.map_append, List.map_append]
                    rfl
                  · rw [← et, drop_get ez]
                    show _ = if 93 < z then _ else _
                    rw [if_neg hz]
                · refine p.bad k6 ?_ d H6 (b5.trans b6) hd
                  have hx : txtR (x.toNat - (i + 1) + 1) (o.drop k5) k5 ss = (none, k6) := by
                    rcases signR_none e6 with ⟨ez, rfl⟩ | ⟨z, ez, hz, rfl⟩
                    · rw [drop_none ez]
                      rfl
                    · rw [drop_get ez]
                      show (if 93 < z then _ else _) = _
                      rw [if_pos hz]
                  rw [et] at hx
                  show (match txtR x.toNat (o.drop k3) k3 [] with
                    | (none, s') => ((none : Option K77.D), s')
                    | (some t, s') => (some (.str ⟨t.toArray⟩), s')) = _
                  rw [hx]
            · obtain rfl : i = x.toNat := by omega
              refine .inl ⟨Nat.le_refl _, ?_⟩
              rw [Nat.sub_self] at et
              have et2 : txtR x.toNat (o.drop k3) k3 [] = (some ss, k5) := et.symm
              refine ⟨_, D, ss.map oneS, rfl, rfl, .inl (SqL.of e5), ?_, ?_⟩
              · have h1 := rd5.ko
                have h2 := rd.sz
                have h3 : ("" : Str).length = 0 := rfl
                rw [lens_one, h3]
                omega
              · rw [join_one]
                refine p.ok (.str ⟨ss.toArray⟩) k5 ?_ _ _ b5 rd5 (.str _)
                show (match txtR x.toNat (o.drop k3) k3 [] with
                    | (none, s') => ((none : Option K77.D), s')
                    | (some t, s') => (some (.str ⟨t.toArray⟩), s')) = _
                rw [et2]
          · rw [e3] at p
            exact p.bad k3 rfl d H3 (b2.trans b3) hd
end
end K77
end

section
set_option Elab.async false
set_option linter.all false
set_option maxRecDepth 100000
set_option maxHeartbeats 4000000
namespace K77
open PySem L2
/-! ### plain facts about the reading machine -/
def tot (s : Stt) : Nat := s.xs.length + s.below.length + (s.below.map fun q => q.1.length).sum
structure WF (o : List Int) (s : Stt) : Prop where
  sp : s.spot ≤ o.length
  tt : tot s ≤ s.spot
  b0 : s.below = [] → s.xs.length + s.m = 1
  b1 : ∀ q, s.below.getLast? = some q → q.1 = [] ∧ q.2 = 0
theorem wf_begun (o : List Int) : WF o begun := ⟨Nat.zero_le _, Nat.le_refl _, fun _ => rfl, fun q h => by cases h⟩
theorem wf_close {o : List Int} {ys : List D} {k : Nat} {b : List (List D × Nat)} {xs : List D} {sp : Nat} (h : WF o ⟨(ys, k) :: b, xs, 0, sp⟩) : WF o ⟨b, ys ++ [.tup xs], k, sp⟩ := by
  refine ⟨h.sp, ?_, fun e => ?_, fun q e => ?_⟩
  · have q := h.tt
    simp only [tot, List.length_cons, List.map_cons, List.sum_cons, List.length_append, List.length_nil] at q ⊢
    omega
  · have e2 : b = [] := e
    subst e2
    have q := h.b1 (ys, k) rfl
    have q1 : ys = [] := q.1
    have q2 : k = 0 := q.2
    subst q1 q2
    rfl
  · refine h.b1 q ?_
    have e2 : b.getLast? = some q := e
    show ((ys, k) :: b).getLast? = some q
    cases b with
    | nil => cases e2
    | cons z zs => rw [List.getLast?_cons_cons]; exact e2
theorem wf_open {o : List Int} {b : List (List D × Nat)} {xs : List D} {m n sp sp' : Nat} (h : WF o ⟨b, xs, m + 1, sp⟩) (h1 : sp < sp') (h2 : sp' ≤ o.length) : WF o ⟨(xs, m) :: b, [], n, sp'⟩ := by
  refine ⟨h2, ?_, fun e => (by cases e), fun q e => ?_⟩
  · have q := h.tt
    simp only [tot, List.length_cons, List.map_cons, List.sum_cons, List.length_nil] at q ⊢
    omega
  · have e2 : ((xs, m) :: b).getLast? = some q := e
    cases b with
    | nil =>
      have q1 := h.b0 rfl
      simp only at q1
      have e3 : (xs, m) = q := by simpa using e2
      subst e3
      exact ⟨List.eq_nil_of_length_eq_zero (by show xs.length = 0; omega), by show m = 0; omega⟩
    | cons z zs =>
      rw [List.getLast?_cons_cons] at e2
      exact h.b1 q e2
theorem wf_part {o : List Int} {b : List (List D × Nat)} {xs : List D} {m sp sp' : Nat} {d : D} (h : WF o ⟨b, xs, m + 1, sp⟩) (h1 : sp < sp') (h2 : sp' ≤ o.length) : WF o ⟨b, xs ++ [d], m, sp'⟩ := by
  refine ⟨h2, ?_, fun e => ?_, fun q e => h.b1 q e⟩
  · have q := h.tt
    simp only [tot, List.length_append, List.length_cons, List.length_nil] at q ⊢
    omega
  · have q1 := h.b0 e
    simp only [List.length_append, List.length_cons, List.length_nil] at q1 ⊢
    omega
section
variable {P : Program} {w : World} {K : PySem.W.Frag} {mg : Str → Option Value} {base : Heap}
/-! ### open rows in the heap, the top first: the row's list, the list of its parts; the parts, how many are wanted -/
inductive Stk (K : PySem.W.Frag) (H : Hp) : List (Addr × Addr) → List (List D × Nat) → Prop
  | nil : Stk K H [] []
  | cons {r x : Addr} {m : Nat} {vs : List V} {ds : List D} {rs : List (Addr × Addr)} {fs : List (List D × Nat)} : H r = some (.lst [.ref x, .int (m : Nat)]) → H x = some (.lst vs) → ImL K H vs ds → Stk K H rs fs → Stk K H ((r, x) :: rs) ((ds, m) :: fs)
def flat (rs : List (Addr × Addr)) : List Addr := rs.flatMap fun q => [q.1, q.2]
theorem flat_cons (r x : Addr) (rs : List (Addr × Addr)) : flat ((r, x) :: rs) = r :: x :: flat rs := rfl
theorem Stk.keep {H H' : Hp} {S : List Addr} (b : But S H H') (t : Tk K H H') : ∀ {rs : List (Addr × Addr)} {fs : List (List D × Nat)}, Stk K H rs fs → (∀ c ∈ flat rs, c ∉ S) → Stk K H' rs fs
  | [], _, h, _ => by cases h; exact .nil
  | (r, x) :: rs, _, h, n => by
    cases h with
    | cons h1 h2 h3 h4 =>
      rw [flat_cons] at n
      exact .cons (b _ _ (n r (by simp)) h1) (b _ _ (n x (by simp)) h2) (h3.mono t) (h4.keep b t fun c hc => n c (by simp [hc]))
theorem Stk.len {H : Hp} : ∀ {rs : List (Addr × Addr)} {fs : List (List D × Nat)}, Stk K H rs fs → rs.length = fs.length
  | [], _, h => by cases h; rfl
  | (r, x) :: rs, _, h => by
    cases h with
    | cons h1 h2 h3 h4 => rw [List.length_cons, List.length_cons, h4.len]
theorem Stk.stands {H : Hp} : ∀ {rs : List (Addr × Addr)} {fs : List (List D × Nat)} {c : Addr}, Stk K H rs fs → c ∈ flat rs → ∃ o, H c = some o
  | [], _, c, h, hc => by simp [flat] at hc
  | (r, x) :: rs, _, c, h, hc => by
    cases h with
    | cons h1 h2 h3 h4 =>
      rw [flat_cons] at hc
      simp only [List.mem_cons] at hc
      rcases hc with rfl | rfl | hc
      · exact ⟨_, h1⟩
      · exact ⟨_, h2⟩
      · exact h4.stands hc
theorem nodup_ins {a p x9 r9 : Addr} {l : List Addr} (h : (a :: p :: l).Nodup) (h1 : x9 ∉ a :: p :: l) (h2 : r9 ∉ a :: p :: l) (h3 : x9 ≠ r9) : (a :: p :: r9 :: x9 :: l).Nodup := by
  simp only [List.nodup_cons, List.mem_cons, not_or] at h h1 h2 ⊢
  obtain ⟨⟨a1, a2⟩, a3, a4⟩ := h
  exact ⟨⟨a1, Ne.symm h2.1, Ne.symm h1.1, a2⟩, ⟨Ne.symm h2.2.1, Ne.symm h1.2.1, a3⟩, ⟨Ne.symm h3, h2.2.2⟩, h1.2.2, a4⟩
def frs (s : Stt) : List (List D × Nat) := (s.xs, s.m) :: s.below.map fun q => (q.1, q.2 + 1)
def rowsV (rs : List (Addr × Addr)) : List V := rs.reverse.map fun q => V.ref q.1
theorem rowsV_cons (r x : Addr) (rs : List (Addr × Addr)) : rowsV ((r, x) :: rs) = rowsV rs ++ [.ref r] := by
  unfold rowsV
  rw [List.reverse_cons, List.map_append]
  rfl
theorem rowsV_len (rs : List (Addr × Addr)) : (rowsV rs).length = rs.length := by
  unfold rowsV
  rw [List.length_map, List.length_reverse]
theorem at_last {α : Type} (l : List α) (v : α) : atI (l ++ [v]) (-1) = some v := by
  unfold atI ixN
  rw [if_neg (by decide), if_pos (by rw [List.length_append]; simp only [List.length_cons, List.length_nil]; omega)]
  simp only [Option.bind_some, List.length_append, List.length_cons, List.length_nil]
  have e : ((-1 : Int) + ((l.length + (0 + 1) : Nat) : Int)).toNat = l.length := by omega
  rw [e]
  simp
theorem at_0 {α : Type} (l : List α) (v : α) : atI (v :: l) 0 = some v := by
  unfold atI ixN
  rw [if_pos (by decide), if_pos (by rw [List.length_cons]; omega)]
  rfl
theorem at_1 {α : Type} (l : List α) (u v : α) : atI (u :: v :: l) 1 = some v := by
  unfold atI ixN
  rw [if_pos (by decide), if_pos (by rw [List.length_cons, List.length_cons]; omega)]
  rfl
theorem Same.but {S : List Addr} {H H1 H2 : Hp} (s : Same H H1) (b : But S H1 H2) (n : ∀ c ∈ S, H c = none) : Same H H2 := fun a o h => b a o (fun z => by rw [n a z] at h; cases h) (s a o h)
/-! ### Reader.__init__ -/
def spRInit (C : Addr) : Sp := fun vs H Q _ => ∃ x g dx, vs = [.ref x, .ref g] ∧ H x = some (.ins C dx []) ∧ ∀ H', But [x] H H' → H' x = some (.ins C dx [("given", .ref g), ("spot", .int 0)]) → Q .non H'
theorem ok_rinit (T : Tx P K mg) : FnOk P w K mg base CX0 1 T.Reader_init.f T.Reader_init.fd ["self", "octets"] (spRInit T.CReader) := by
  refine T.Reader_init.F.ok sc_Reader_init (fun vs H Q E h => ?_) (fun cdv A outer s H vs Q E hr h => ?_)
  · obtain ⟨x, g, dx, rfl, _⟩ := h
    rfl
  · obtain ⟨x, g, dx, rfl, ex, q⟩ := h
    refine ⟨_, (pss_cons (ps_fld (pv 0) (pv 1) rfl)
      (pss_one (ps_fld (pv 0) pe_int rfl))), ?_⟩
    refine ⟨_, rfl, _, rfl, x, _, dx, _, rfl, ex, T.Reader.cl, T.Reader_given, (by decide), ?_⟩
    refine ⟨_, rfl, x, _, dx, _, rfl, upd_same, T.Reader.cl, T.Reader_spot, (by show (1 : Nat) < 1000; decide), ?_⟩
    exact q _ ((But.upd (List.mem_singleton.mpr rfl)).trans (But.upd (List.mem_singleton.mpr rfl))) upd_same
/-! ### unpacked -/
def spUnpacked (K : PySem.W.Frag) (CB : Addr) : Sp := fun vs H Q E => ∃ g o, vs = [.ref g] ∧ SqT K H g (o.map V.int) ∧ Oct o ∧ Cap 7 o ∧ o.length ≤ 1000000 ∧
  (∀ d, read o = .ok d → ∀ v H', Same H H' → Im K H' v d → Q v H') ∧ ∀ k, read o = .bad k → ∀ d H', Same H H' → H' d = some (.xd [("at", .int (k : Nat))]) → E (.ref CB) (some d) H'

theorem step_none {o : List Int} {bl : List (List D × Nat)} {xs : List D} {m sp : Nat} (h : o[sp]? = none) : step o ⟨bl, xs, m + 1, sp⟩ = .inr (.bad sp) := by
  unfold step
  simp only [Nat.add_one_ne_zero, if_false, h]
theorem step_row_bad {o : List Int} {bl : List (List D × Nat)} {xs : List D} {m sp k : Nat} (h : o[sp]? = some 6) (h2 : num o (sp + 1) = (none, k)) : step o ⟨bl, xs, m + 1, sp⟩ = .inr (.bad k) := by
  unfold step
  simp only [Nat.add_one_ne_zero, if_false, h, if_true, h2]
theorem step_row_big {o : List Int} {bl : List (List D × Nat)} {xs : List D} {m sp k : Nat} {n : Int} (h : o[sp]? = some 6) (h2 : num o (sp + 1) = (some n, k)) (h3 : (o.length : Int) < n) : step o ⟨bl, xs, m + 1, sp⟩ = .inr (.bad k) := by
  unfold step
  simp only [Nat.add_one_ne_zero, if_false, h, if_true, h2, h3]
theorem step_row {o : List Int} {bl : List (List D × Nat)} {xs : List D} {m sp k : Nat} {n : Int} (h : o[sp]? = some 6) (h2 : num o (sp + 1) = (some n, k)) (h3 : ¬ (o.length : Int) < n) : step o ⟨bl, xs, m + 1, sp⟩ = .inl ⟨(xs, m) :: bl, [], n.toNat, k⟩ := by
  unfold step
  simp only [Nat.add_one_ne_zero, if_false, h, if_true, h2, h3, Nat.add_sub_cancel]
theorem step_part_bad {o : List Int} {bl : List (List D × Nat)} {xs : List D} {m sp k : Nat} {t : Int} (h : o[sp]? = some t) (h1 : t ≠ 6) (h2 : part o t (sp + 1) = (none, k)) : step o ⟨bl, xs, m + 1, sp⟩ = .inr (.bad k) := by
  unfold step
  simp only [Nat.add_one_ne_zero, if_false, h, h1, h2]
theorem step_part {o : List Int} {bl : List (List D × Nat)} {xs : List D} {m sp k : Nat} {t : Int} {d : D} (h : o[sp]? = some t) (h1 : t ≠ 6) (h2 : part o t (sp + 1) = (some d, k)) : step o ⟨bl, xs, m + 1, sp⟩ = .inl ⟨bl, xs ++ [d], m, k⟩ := by
  unfold step
  simp only [Nat.add_one_ne_zero, if_false, h, h1, h2, Nat.add_sub_cancel]
theorem tOr_of {t u : TT} {σ : St} {H : Hp} {Z : Bool → Hp → Prop} (b : Bool) (z : Z b H) (h : ∀ Z : Bool → Hp → Prop, Z b H → tOr t u σ H Z) : tOr t u σ H Z := h Z z
/-- the loop's state -/
structure UW (K : PySem.W.Frag) (C a g p : Addr) (H H' : Hp) (o : List Int) (s : Stt) (rs : List (Addr × Addr)) : Prop where
  wf : WF o s
  fn : fin o s = read o
  sm : Same H H'
  rd : Rd K C a g H' o s.spot
  pp : H' p = some (.lst (rowsV rs))
  st : Stk K H' rs (frs s)
  nd : (a :: p :: flat rs).Nodup
  nw : ∀ c ∈ a :: p :: flat rs, H c = none
theorem UW.noT {C a g p : Addr} {H H' : Hp} {o : List Int} {s : Stt} {r x : Addr} {rs : List (Addr × Addr)} (u : UW K C a g p H H' o s ((r, x) :: rs)) : NoT H' [a, p, r, x] := by
  obtain ⟨dx, ea⟩ := u.rd.at_
  have st := u.st
  unfold frs at st
  cases st with
  | cons h1 h2 h3 h4 => exact noT_ins ea (noT_lst u.pp (noT_lst h1 (noT_lst h2 noT_nil)))
theorem ok_unpacked (T : Tx P K mg) (G_Reader_init : FnOk P w K mg base CX0 1 T.Reader_init.f T.Reader_init.fd ["self", "octets"] (spRInit T.CReader))
    (G_Reader_one : FnOk P w K mg base (CX P w) 1 T.Reader_one.f T.Reader_one.fd ["self"] (spOne K T.CReader T.CBadOctets))
    (G_Reader_number : FnOk P w K mg base (CX P w) 2 T.Reader_number.f T.Reader_number.fd ["self"] (spNumber K T.CReader T.CBadOctets))
    (G_plain_part : FnOk P w K mg base (CX P w) 3 T.plain_part.f T.plain_part.fd ["reader", "tag"] (spPlain K T.CReader T.CBadOctets)) :
    FnOk P w K mg base (CX P w) 4 T.unpacked.f T.unpacked.fd ["octets"] (spUnpacked K T.CBadOctets) := by
  refine T.unpacked.F.okX sc_unpacked (fun vs H Q E h => ?_) (fun cdv A outer s H vs Q E hr h => ?_)
  · obtain ⟨g, o, rfl, _⟩ := h
    rfl
  · obtain ⟨g, o, rfl, hg, ho, hc, hz, pok, pbad⟩ := h
    refine ⟨_, (pss_cons (ps_par (i := 1) (j := 2) rfl sc_unpacked.nd rfl rfl (by decide) rfl rfl (pa_cons (pe_make T.Reader.make G_Reader_init (hr.mono (by decide)) rfl T.Reader.g T.Reader_init.b .nil pass0 (pa_cons (pv 0) pa_nil)) (pa_cons (pe_lst (pa_cons (pe_lst (pa_cons (pe_lst pa_nil) (pa_cons pe_int pa_nil))) pa_nil)) pa_nil)) (by rfl))
      (pss_cons (ps_while (passes_of rfl) (PW.pt (pw_or (pt_cmpR op_gt (pe_callB call_len_seq (by rfl) T.n_len PySem.boot_len (pa_cons (pv 2) pa_nil)) pe_int (nomark _)) (pw_or1 (pt_cmpR op_gt (pe_ix ix_list (pe_ix ix_list (pv 2) pe_int (fun _ _ => rfl)) pe_int (fun _ _ => rfl)) pe_int (nomark _))))) (pss_one (ps_if (pt_cmpR op_eq (pe_ix ix_list (pe_ix ix_list (pv 2) (pe_un un_neg pe_int) (fun _ _ => rfl)) pe_int (fun _ _ => rfl)) pe_int (nomark _)) (pss_cons (ps_set (i := 3) sc_unpacked.nd rfl (by first | exact Or.inl rfl | exact Or.inr rfl) (pe_tupleOf rfl T.n_tuple (pe_ix ix_list (pe_bm0 PySem.F.plainAttrs_list PySem.F.slot_list_pop PySem.F.type_list_pop mt_pop (pv 2)) pe_int (fun _ _ => rfl))))
      (pss_cons (ps_expr (pe_bm PySem.F.plainAttrs_list PySem.F.slot_list_append PySem.F.type_list_append mt_append (pe_ix ix_list (pe_ix ix_list (pv 2) (pe_un un_neg pe_int) (fun _ _ => rfl)) pe_int (fun _ _ => rfl)) (pa_cons (pv 3) pa_nil)))
      (pss_one (ps_augS (pe_ix ix_list (pv 2) (pe_un un_neg pe_int) (fun _ _ => rfl)) pe_int get_list pe_int ip_sub set_list)))) (pss_cons (ps_set (i := 4) sc_unpacked.nd rfl (by first | exact Or.inl rfl | exact Or.inr rfl) (pe_meth0 (pv 1) T.Reader.cl T.Reader_one.mt G_Reader_one (hr.mono (by decide)) T.Reader_one.b .nil (passes_call (takes_of rfl rfl rfl rfl) (fun _ _ _ _ h => h))))
      (pss_one (ps_if (pt_cmpR op_eq (pv 4) (C8.pe_gc rfl T.c_ROW) (nomark _)) (pss_cons (ps_set (i := 5) sc_unpacked.nd rfl (by first | exact Or.inl rfl | exact Or.inr rfl) (pe_meth0 (pv 1) T.Reader.cl T.Reader_number.mt G_Reader_number (hr.mono (by decide)) T.Reader_number.b .nil (passes_call (takes_of rfl rfl rfl rfl) (fun _ _ _ _ h => h))))
      (pss_cons (ps_if (pt_cmpR op_gt (pv 5) (pe_callB call_len_seq (by rfl) T.n_len PySem.boot_len (pa_cons (pv 0) pa_nil)) (nomark _)) (pss_one (ps_raiseOwn Own.plain_at rfl T.BadOctets hr (takes_of rfl rfl rfl rfl) (pa_cons (pe_fld (pv 1) rfl) pa_nil))) pss_nil)
      (pss_one (ps_expr (pe_bm PySem.F.plainAttrs_list PySem.F.slot_list_append PySem.F.type_list_append mt_append (pv 2) (pa_cons (pe_lst (pa_cons (pe_lst pa_nil) (pa_cons (pv 5) pa_nil))) pa_nil)))))) (pss_cons (ps_expr (pe_bm PySem.F.plainAttrs_list PySem.F.slot_list_append PySem.F.type_list_append mt_append (pe_ix ix_list (pe_ix ix_list (pv 2) (pe_un un_neg pe_int) (fun _ _ => rfl)) pe_int (fun _ _ => rfl)) (pa_cons (pe_call G_plain_part (hr.mono (by decide)) rfl T.plain_part.m T.plain_part.F.kp T.plain_part.b .nil (passes_call (takes_of rfl rfl rfl rfl) (fun _ _ _ _ h => h)) (pa_cons (pv 1) (pa_cons (pv 4) pa_nil))) pa_nil)))
      (pss_one (ps_augS (pe_ix ix_list (pv 2) (pe_un un_neg pe_int) (fun _ _ => rfl)) pe_int get_list pe_int ip_sub set_list)))))))))
      (pss_cons (ps_if (pt_cmpR op_lt (pe_fld (pv 1) rfl) (pe_callB call_len_seq (by rfl) T.n_len PySem.boot_len (pa_cons (pv 0) pa_nil)) (nomark _)) (pss_one (ps_raiseOwn Own.plain_at rfl T.BadOctets hr (takes_of rfl rfl rfl rfl) (pa_cons (pe_fld (pv 1) rfl) pa_nil))) pss_nil)
      (pss_one (ps_ret (pe_ix ix_list (pe_ix ix_list (pe_ix ix_list (pv 2) pe_int (fun _ _ => rfl)) pe_int (fun _ _ => rfl)) pe_int (fun _ _ => rfl))))))), ?_⟩
    refine ⟨_, rfl, fun a dx ha hdx hne => ⟨a, g, dx, rfl, upd_same, fun H1 b1 e1 => ⟨rfl, ?_⟩⟩⟩
    have s1 : Same H H1 := Same.but (S := [a]) (Same.put (same_new hdx) ha) b1 (by simpa using ha)
    refine ⟨Nat.zero_le _, fun x0 hx0 => ?_⟩
    have s2 : Same H1 (upd H1 x0 (.lst [])) := same_new hx0
    have e2 : upd H1 x0 (.lst []) x0 = some (.lst []) := upd_same
    generalize upd H1 x0 (.lst []) = H2 at s2 e2 ⊢
    refine ⟨(by show 2 ≤ sizeLine; decide), fun r0 hr0 => ?_⟩
    have s3 : Same H2 (upd H2 r0 (.lst [.ref x0, .int 1])) := same_new hr0
    have e3 : upd H2 r0 (.lst [.ref x0, .int 1]) r0 = some (.lst [.ref x0, .int 1]) := upd_same
    generalize upd H2 r0 (.lst [.ref x0, .int 1]) = H3 at s3 e3 ⊢
    refine ⟨(by show 1 ≤ sizeLine; decide), fun p hp => ?_⟩
    have s4 : Same H3 (upd H3 p (.lst [.ref r0])) := same_new hp
    have e4 : upd H3 p (.lst [.ref r0]) p = some (.lst [.ref r0]) := upd_same
    generalize upd H3 p (.lst [.ref r0]) = H4 at s4 e4 ⊢
    have n1 : a ≠ x0 := fun z => by rw [← z, e1] at hx0; cases hx0
    have n2 : a ≠ r0 := fun z => by rw [← z, s2 _ _ e1] at hr0; cases hr0
    have n3 : x0 ≠ r0 := fun z => by rw [← z, e2] at hr0; cases hr0
    have n4 : a ≠ p := fun z => by rw [← z, s3 _ _ (s2 _ _ e1)] at hp; cases hp
    have n5 : x0 ≠ p := fun z => by rw [← z, s3 _ _ e2] at hp; cases hp
    have n6 : r0 ≠ p := fun z => by rw [← z, e3] at hp; cases hp
    have u0 : UW K T.CReader a g p H H4 o begun [(r0, x0)] := by
      refine ⟨wf_begun o, (read_fin o).symm, s1.trans (s2.trans (s3.trans s4)), ⟨⟨dx, s4 _ _ (s3 _ _ (s2 _ _ e1))⟩, Tk.same (s1.trans (s2.trans (s3.trans s4))) _ _ hg, Nat.zero_le _, ho, hc, hz⟩, e4, .cons (s4 _ _ e3) (s4 _ _ (s3 _ _ e2)) .nil .nil, ?_, ?_⟩
      · simp [flat, n1, n2, n3, n4, n5, n6, Ne.symm n3, Ne.symm n5, Ne.symm n6]
      · intro c hcm
        rcases (by simpa [flat] using hcm : c = a ∨ c = p ∨ c = r0 ∨ c = x0) with rfl | rfl | rfl | rfl
        · exact ha
        · exact (s1.trans (s2.trans s3)).free hp
        · exact (s1.trans s2).free hr0
        · exact s1.free hx0
    refine ⟨_, _, rfl, ?_⟩
    refine ⟨fun m σ H' => ∃ (s : Stt) (rs : List (Addr × Addr)) (u3 u4 u5 : Option V), m = mu o s ∧ σ = [some (.ref g), some (.ref a), some (.ref p), u3, u4, u5] ∧ UW K T.CReader a g p H H' o s rs, ⟨_, begun, _, none, none, none, rfl, rfl, u0⟩, ?_⟩
    rintro m σ H5 ⟨s, rs, u3, u4, u5, rfl, rfl, u⟩
    obtain ⟨bl, xs, mm, sp⟩ := s
    have st := u.st
    unfold frs at st
    cases st with
    | @cons r x _ vs _ rs _ h1 h2 h3 h4 =>
    obtain ⟨dx5, ea5⟩ := u.rd.at_
    have pp := u.pp
    rw [rowsV_cons] at pp
    replace h1 : H5 r = some (.lst [.ref x, .int (mm : Nat)]) := h1
    replace h3 : ImL K H5 vs xs := h3
    replace h4 : Stk K H5 rs (bl.map fun q => (q.1, q.2 + 1)) := h4
    replace ea5 : H5 a = some (.ins T.CReader dx5 [("given", .ref g), ("spot", .int (sp : Nat))]) := ea5
    have hl4 : rs.length = bl.length := by
      have := h4.len
      rwa [List.length_map] at this
    have tt5 : xs.length + bl.length + (bl.map fun q => q.1.length).sum ≤ sp := u.wf.tt
    have sp5 : sp ≤ o.length := u.wf.sp
    have len5 : (rowsV rs ++ [V.ref r]).length = bl.length + 1 := by rw [List.length_append, rowsV_len, hl4]; rfl
    have spn : sp ≤ 1000000 := Nat.le_trans sp5 hz
    have bln : bl.length ≤ sp := by omega
    refine tOr_of (decide (bl ≠ [] ∨ 0 < mm)) ?_ (fun Z z => ?_)
    · refine ite2 (fun c => ?_) (fun c => ?_)
      · have cc := of_decide_eq_true c
        refine ⟨fun σ' H' => ∃ (s' : Stt) (rs' : List (Addr × Addr)) (u3 u4 u5 : Option V), mu o s' < mu o ⟨bl, xs, mm, sp⟩ ∧ σ' = [some (.ref g), some (.ref a), some (.ref p), u3, u4, u5] ∧ UW K T.CReader a g p H H' o s' rs', ?_, ?_⟩
        · rintro σ' H' ⟨s', rs', v3, v4, v5, hm, rfl, u'⟩
          exact ⟨_, hm, s', rs', v3, v4, v5, rfl, rfl, u'⟩
        · refine ⟨.ref p, rfl, _, rfl, p, _, _, _, rfl, rfl, SqL.of pp, at_last _ _, r, _, _, _, rfl, rfl, SqL.of h1, at_1 _ _ _, rfl, _, rfl, ?_⟩
          refine ite2 (fun c2 => ?_) (fun c2 => ?_)
          · have hm0 : mm = 0 := by
              have := vint_eq c2
              omega
            subst hm0
            cases bl with
            | nil => exact absurd cc (by simp)
            | cons yk bl =>
            obtain ⟨ys, k⟩ := yk
            rw [List.map_cons] at h4
            cases h4 with
            | @cons r2 x2 _ vs2 _ rs _ g1 g2 g3 g4 =>
            rw [rowsV_cons] at pp
            have e0 : step o ⟨(ys, k) :: bl, xs, 0, sp⟩ = .inl ⟨bl, ys ++ [.tup xs], k, sp⟩ := rfl
            have nd := u.nd
            have nw := u.nw
            rw [flat_cons, flat_cons] at nd nw
            simp only [List.nodup_cons, List.mem_cons, not_or] at nd
            obtain ⟨⟨na_p, na_r, na_x, na_r2, na_x2, na_f⟩, ⟨np_r, np_x, np_r2, np_x2, np_f⟩, ⟨nr_x, nr_r2, nr_x2, nr_f⟩, ⟨nx_r2, nx_x2, nx_f⟩, ⟨nr2_x2, nr2_f⟩, nx2_f, nd_f⟩ := nd
            have ns : NoT H5 [p, r2, x2] := noT_lst u.pp (noT_lst g1 (noT_lst g2 noT_nil))
            -- whole = tuple(open_rows.pop()[0])
            have hx2l : vs2.length = ys.length := g3.len
            refine ⟨.ref p, rfl, .inl ⟨rfl, _, SqL.of pp⟩, p, _, .ref r, rfl, rfl, pp, by simp, r, _, _, .ref x, rfl, rfl, SqL.of (by rw [upd_ne (Ne.symm np_r)]; exact h1), at_0 _ _, .inl ⟨x, vs, rfl, SqL.of (by rw [upd_ne (Ne.symm np_x)]; exact h2), fun q hq => ?_⟩⟩
            rw [List.dropLast_concat]
            have b6 : But [p, r2, x2] H5 (upd H5 p (.lst (rowsV rs ++ [V.ref r2]))) := But.upd (by simp)
            have e6 : upd H5 p (.lst (rowsV rs ++ [V.ref r2])) p = some (.lst (rowsV rs ++ [V.ref r2])) := upd_same
            rw [List.dropLast_concat] at hq
            have f6r2 : upd H5 p (.lst (rowsV rs ++ [V.ref r2])) r2 = some (.lst [.ref x2, .int ((k + 1 : Nat) : Int)]) := by rw [upd_ne (Ne.symm np_r2)]; exact g1
            have f6x2 : upd H5 p (.lst (rowsV rs ++ [V.ref r2])) x2 = some (.lst vs2) := by rw [upd_ne (Ne.symm np_x2)]; exact g2
            generalize upd H5 p (.lst (rowsV rs ++ [V.ref r2])) = H6 at b6 e6 f6r2 f6x2 hq ⊢
            have s7 : Same H6 (upd H6 q (.tup vs)) := same_new hq
            have e7 : upd H6 q (.tup vs) q = some (.tup vs) := upd_same
            generalize upd H6 q (.tup vs) = H7 at s7 e7 ⊢
            -- open_rows[-1][0].append(whole)
            refine ⟨.ref p, rfl, _, rfl, p, _, _, .ref r2, rfl, rfl, SqL.of (s7 _ _ e6), at_last _ _, r2, _, _, .ref x2, rfl, rfl, SqL.of (s7 _ _ f6r2), at_0 _ _, .inl ⟨rfl, _, SqL.of (s7 _ _ f6x2)⟩, _, rfl, x2, vs2, .ref q, rfl, rfl, s7 _ _ f6x2, ?_, ?_⟩
            · simp only [List.map_cons, List.sum_cons] at tt5
              rw [hx2l, sizeLine_eq]
              omega
            have b8 : But [p, r2, x2] H7 (upd H7 x2 (.lst (vs2 ++ [.ref q]))) := But.upd (by simp)
            have e8 : upd H7 x2 (.lst (vs2 ++ [.ref q])) x2 = some (.lst (vs2 ++ [.ref q])) := upd_same
            have e8p : upd H7 x2 (.lst (vs2 ++ [.ref q])) p = some (.lst (rowsV rs ++ [V.ref r2])) := by rw [upd_ne np_x2]; exact s7 _ _ e6
            have e8r : upd H7 x2 (.lst (vs2 ++ [.ref q])) r2 = some (.lst [.ref x2, .int ((k + 1 : Nat) : Int)]) := by rw [upd_ne nr2_x2]; exact s7 _ _ f6r2
            have nqx : q ≠ x2 := fun z => by rw [z, f6x2] at hq; cases hq
            have e8q : upd H7 x2 (.lst (vs2 ++ [.ref q])) q = some (.tup vs) := by rw [upd_ne nqx]; exact e7
            generalize upd H7 x2 (.lst (vs2 ++ [.ref q])) = H8 at b8 e8 e8p e8r e8q ⊢
            -- open_rows[-1][1] -= 1
            refine ⟨.ref p, rfl, _, rfl, p, _, _, .ref r2, rfl, rfl, SqL.of e8p, at_last _ _, r2, _, _, _, rfl, rfl, SqL.of e8r, at_1 _ _ _, _, _, rfl, rfl, r2, _, _, 1, rfl, rfl, e8r, rfl, ?_⟩
            have ek : ([V.ref x2, V.int ((k + 1 : Nat) : Int)].set 1 (.int (((k + 1 : Nat) : Int) - 1))) = [V.ref x2, V.int (k : Nat)] := by
              have : ((k + 1 : Nat) : Int) - 1 = (k : Nat) := by omega
              rw [this]
              rfl
            rw [ek]
            have b9 : But [p, r2, x2] H8 (upd H8 r2 (.lst [.ref x2, .int (k : Nat)])) := But.upd (by simp)
            have e9 : upd H8 r2 (.lst [.ref x2, .int (k : Nat)]) r2 = some (.lst [.ref x2, .int (k : Nat)]) := upd_same
            have e9p : upd H8 r2 (.lst [.ref x2, .int (k : Nat)]) p = some (.lst (rowsV rs ++ [V.ref r2])) := by rw [upd_ne np_r2]; exact e8p
            have e9x : upd H8 r2 (.lst [.ref x2, .int (k : Nat)]) x2 = some (.lst (vs2 ++ [.ref q])) := by rw [upd_ne (Ne.symm nr2_x2)]; exact e8
            have nqr : q ≠ r2 := fun z => by rw [z, f6r2] at hq; cases hq
            have e9q : upd H8 r2 (.lst [.ref x2, .int (k : Nat)]) q = some (.tup vs) := by rw [upd_ne nqr]; exact e8q
            generalize upd H8 r2 (.lst [.ref x2, .int (k : Nat)]) = H9 at b9 e9 e9p e9x e9q ⊢
            have bb : But [p, r2, x2] H5 H9 := b6.trans ((But.of s7).trans (b8.trans b9))
            have tk : Tk K H5 H9 := Tk.but bb ns
            have hmu := step_mu (o := o) (s := ⟨(ys, k) :: bl, xs, 0, sp⟩) sp5 e0
            refine ⟨⟨bl, ys ++ [.tup xs], k, sp⟩, (r2, x2) :: rs, _, _, _, hmu.1, rfl, wf_close u.wf, ?_, ?_, ?_, ?_, ?_, ?_, ?_⟩
            · rw [← fin_step (s := ⟨(ys, k) :: bl, xs, 0, sp⟩) sp5 e0]
              exact u.fn
            · refine Same.but u.sm bb fun c hc => nw c ?_
              rcases (by simpa using hc : c = p ∨ c = r2 ∨ c = x2) with rfl | rfl | rfl <;> simp
            · exact u.rd.keep bb ns (by simp [na_p, na_r2, na_x2])
            · rw [rowsV_cons]; exact e9p
            · refine .cons e9 e9x ((g3.mono tk).app (.cons (.tup (SqT.of e9q) (h3.mono tk)) .nil)) (g4.keep bb tk fun c hc hm => ?_)
              rcases (by simpa using hm : c = p ∨ c = r2 ∨ c = x2) with rfl | rfl | rfl
              · exact np_f hc
              · exact nr2_f hc
              · exact nx2_f hc
            · rw [flat_cons]
              simp only [List.nodup_cons, List.mem_cons, not_or]
              exact ⟨⟨na_p, na_r2, na_x2, na_f⟩, ⟨np_r2, np_x2, np_f⟩, ⟨nr2_x2, nr2_f⟩, nx2_f, nd_f⟩
            · intro c hc
              refine nw c ?_
              rw [flat_cons] at hc
              simp only [List.mem_cons] at hc ⊢
              rcases hc with h | h | h | h | h
              · exact .inl h
              · exact .inr (.inl h)
              · exact .inr (.inr (.inr (.inr (.inl h))))
              · exact .inr (.inr (.inr (.inr (.inr (.inl h)))))
              · exact .inr (.inr (.inr (.inr (.inr (.inr h)))))
          · obtain ⟨m', rfl⟩ : ∃ m', mm = m' + 1 := by
              refine ⟨mm - 1, ?_⟩
              have : (mm : Int) ≠ 0 := vint_ne c2
              omega
            have nd := u.nd
            have nw := u.nw
            rw [flat_cons] at nd nw
            simp only [List.nodup_cons, List.mem_cons, not_or] at nd
            obtain ⟨⟨na_p, na_r, na_x, na_f⟩, ⟨np_r, np_x, np_f⟩, ⟨nr_x, nr_f⟩, nx_f, nd_f⟩ := nd
            have nha : H a = none := nw a (by simp)
            have bad : ∀ {k : Nat} {H7 : Hp}, But [a] H5 H7 → step o ⟨bl, xs, m' + 1, sp⟩ = .inr (.bad k) → ∀ d, H7 d = some (.xd [("at", .int (k : Nat))]) → E (.ref T.CBadOctets) (some d) H7 := fun b e d hd =>
              pbad _ (by rw [← u.fn]; exact fin_end e) d _ (Same.but u.sm b (by simpa using nha)) hd
            have badN : ∀ {k : Nat} {H7 : Hp}, But [a] H5 H7 → step o ⟨bl, xs, m' + 1, sp⟩ = .inr (.bad k) → ∀ d, H7 d = none → E (.ref T.CBadOctets) (some d) (upd H7 d (.xd [("at", .int (k : Nat))])) := fun b e d hd => by
              have sm := Same.but u.sm b (by simpa using nha)
              exact pbad _ (by rw [← u.fn]; exact fin_end e) d _ (Same.put sm (sm.free hd)) upd_same
            -- what does not lie at a stays
            have keepA : ∀ {H7 : Hp}, But [a] H5 H7 → H7 p = some (.lst (rowsV rs ++ [V.ref r])) ∧ H7 r = some (.lst [.ref x, .int ((m' + 1 : Nat) : Int)]) ∧ H7 x = some (.lst vs) ∧ ImL K H7 vs xs ∧ Stk K H7 rs (bl.map fun q => (q.1, q.2 + 1)) := fun {H7} b => by
              have tk : Tk K H5 H7 := Tk.but b u.rd.noT
              exact ⟨b _ _ (by simpa using Ne.symm na_p) pp, b _ _ (by simpa using Ne.symm na_r) h1, b _ _ (by simpa using Ne.symm na_x) h2, h3.mono tk, h4.keep b tk fun c hc hm => na_f (by rw [List.mem_singleton.mp hm] at hc; exact hc)⟩
            refine ⟨.ref a, rfl, a, dx5, _, rfl, ea5, rfl, a, g, o, sp, rfl, u.rd, ⟨fun tag k1 e1 v H6 b6 rd6 hv => ?_, fun k1 e1 d H6 b6 hd => ?_⟩⟩
            · obtain ⟨g1, rfl⟩ := oneR_get e1
              obtain rfl : v = .int tag := hv
              have ht0 := ho tag (List.mem_of_getElem? g1)
              obtain ⟨dx6, ea6⟩ := rd6.at_
              refine ⟨_, rfl, rfl, _, rfl, ?_⟩
              refine ite2 (fun c6 => ?_) (fun c6 => ?_)
              · obtain rfl := vint_eq c6
                refine ⟨.ref a, rfl, a, dx6, _, rfl, ea6, rfl, a, g, o, sp + 1, rfl, rd6, ⟨fun n k2 e2 v H7 b7 rd7 hv => ?_, fun k2 e2 d H7 b7 hd => bad (b6.trans b7) (step_row_bad g1 e2) d hd⟩⟩
                obtain rfl : v = .int n := hv
                obtain ⟨dx7, ea7⟩ := rd7.at_
                have b57 := b6.trans b7
                refine ⟨_, rfl, _, rfl, g, _, rfl, .inr rd7.tup, _, _, rfl, rfl, _, rfl, ?_⟩
                refine ite2 (fun c7 => ?_) (fun c7 => ?_)
                · have hn : (o.length : Int) < n := by
                    have := of_decide_eq_true c7
                    rwa [List.length_map] at this
                  exact ⟨.ref a, rfl, a, _, dx7, _, .int (k2 : Nat), rfl, ea7, T.Reader.cl, T.Reader_spot, rfl, _, rfl, badN b57 (step_row_big g1 e2 hn)⟩
                · have hn : ¬ (o.length : Int) < n := fun z => c7 (decide_eq_true (by rwa [List.length_map]))
                  have n0 := num_nonneg ho e2
                  obtain ⟨p7, r7, x7, i7, k7⟩ := keepA b57
                  have hsp7 := rd7.ko
                  have hk2 : sp < k2 := by
                    have := num_spot (o := o) (spot := sp + 1) (by have := (List.getElem?_eq_some_iff.mp g1).1; omega)
                    rw [e2] at this
                    have := this.1
                    simp only at this
                    omega
                  have e0 := step_row (bl := bl) (xs := xs) (m := m') g1 e2 hn
                  have hmu := step_mu (o := o) (s := ⟨bl, xs, m' + 1, sp⟩) sp5 e0
                  have sm7 : Same H H7 := Same.but u.sm b57 (by simpa using nha)
                  refine ⟨.ref p, rfl, .inl ⟨rfl, _, SqL.of p7⟩, Nat.zero_le _, fun x9 hx9 => ?_⟩
                  have s8 : Same H7 (upd H7 x9 (.lst [])) := same_new hx9
                  have e8 : upd H7 x9 (.lst []) x9 = some (.lst []) := upd_same
                  generalize upd H7 x9 (.lst []) = H8 at s8 e8 ⊢
                  refine ⟨_, rfl, (by show 2 ≤ sizeLine; decide), fun r9 hr9 => ?_⟩
                  have s9 : Same H8 (upd H8 r9 (.lst [.ref x9, .int n])) := same_new hr9
                  have e9 : upd H8 r9 (.lst [.ref x9, .int n]) r9 = some (.lst [.ref x9, .int n]) := upd_same
                  generalize upd H8 r9 (.lst [.ref x9, .int n]) = H9 at s9 e9 ⊢
                  have s79 : Same H7 H9 := s8.trans s9
                  have en : n = ((n.toNat : Nat) : Int) := (Int.toNat_of_nonneg n0).symm
                  have fx : ∀ {c o}, H7 c = some o → c ≠ x9 := fun h z => by rw [z, hx9] at h; cases h
                  have fr : ∀ {c o}, H7 c = some o → c ≠ r9 := fun h z => by have := s8 _ _ h; rw [z, hr9] at this; cases this
                  have x9r9 : x9 ≠ r9 := fun z => by rw [← z, e8] at hr9; cases hr9
                  refine ⟨p, _, .ref r9, rfl, rfl, s79 _ _ p7, by rw [len5, sizeLine_eq]; omega, ?_⟩
                  have b10 : But [p] H9 (upd H9 p (.lst (rowsV rs ++ [V.ref r] ++ [.ref r9]))) := But.upd (by simp)
                  have e10 : upd H9 p (.lst (rowsV rs ++ [V.ref r] ++ [.ref r9])) p = some (.lst (rowsV rs ++ [V.ref r] ++ [.ref r9])) := upd_same
                  generalize upd H9 p (.lst (rowsV rs ++ [V.ref r] ++ [.ref r9])) = H10 at b10 e10 ⊢
                  have nt9 : NoT H9 [p] := noT_lst (s79 _ _ p7) noT_nil
                  have tk7 : Tk K H7 H10 := (Tk.same s79).trans (Tk.but b10 nt9)
                  have fH : ∀ {c o}, H c = some o → c ≠ x9 ∧ c ≠ r9 := fun h => ⟨fx (sm7 _ _ h), fr (sm7 _ _ h)⟩
                  have nx9 : H x9 = none := sm7.free hx9
                  have nr9 : H r9 = none := (sm7.trans s8).free hr9
                  have inH7 : ∀ c ∈ a :: p :: r :: x :: flat rs, ∃ o, H7 c = some o := fun c hc => by
                    simp only [List.mem_cons] at hc
                    rcases hc with rfl | rfl | rfl | rfl | hc
                    · exact ⟨_, ea7⟩
                    · exact ⟨_, p7⟩
                    · exact ⟨_, r7⟩
                    · exact ⟨_, x7⟩
                    · exact k7.stands hc
                  refine ⟨⟨(xs, m') :: bl, [], n.toNat, k2⟩, (r9, x9) :: (r, x) :: rs, _, _, _, hmu.1, rfl, wf_open u.wf hk2 hsp7, ?_, ?_, ?_, ?_, ?_, ?_, ?_⟩
                  · rw [← fin_step (s := ⟨bl, xs, m' + 1, sp⟩) sp5 e0]
                    exact u.fn
                  · exact Same.but (sm7.trans s79) b10 (fun c hc => nw c (by rw [List.mem_singleton.mp hc]; simp))
                  · exact (rd7.keep (S := []) (But.of s79) noT_nil (by simp)).keep b10 nt9 (by simpa using na_p)
                  · rw [rowsV_cons, rowsV_cons]; exact e10
                  · have hpx : p ≠ x9 := fx p7
                    have hpr : p ≠ r9 := fr p7
                    refine .cons (m := n.toNat) (b10 _ _ (by simpa using Ne.symm hpr) (by rw [← en]; exact e9)) (b10 _ _ (by simpa using Ne.symm hpx) (s9 _ _ e8)) .nil ?_
                    refine .cons (b10 _ _ (by simpa using Ne.symm np_r) (s79 _ _ r7)) (b10 _ _ (by simpa using Ne.symm np_x) (s79 _ _ x7)) (i7.mono tk7) ?_
                    refine (k7.keep (S := []) (But.of s79) (Tk.same s79) (by simp)).keep b10 (Tk.but b10 nt9) fun c hc hm => ?_
                    rw [List.mem_singleton.mp hm] at hc
                    exact np_f hc
                  · have nn := u.nd
                    rw [flat_cons] at nn
                    have q1 : x9 ∉ a :: p :: r :: x :: flat rs := fun hc => by
                      obtain ⟨o, e⟩ := inH7 _ hc
                      exact fx e rfl
                    have q2 : r9 ∉ a :: p :: r :: x :: flat rs := fun hc => by
                      obtain ⟨o, e⟩ := inH7 _ hc
                      exact fr e rfl
                    exact nodup_ins nn q1 q2 x9r9
                  · intro c hc
                    rw [flat_cons, flat_cons] at hc
                    simp only [List.mem_cons] at hc
                    rcases hc with h | h | rfl | rfl | h
                    · exact nw c (by simp [h])
                    · exact nw c (by simp [h])
                    · exact nr9
                    · exact nx9
                    · exact nw c (by simp only [List.mem_cons]; exact .inr (.inr h))
              · have h6 : tag ≠ 6 := vint_ne c6
                obtain ⟨p6, r6, x6, i6, k6⟩ := keepA b6
                refine ⟨.ref p, rfl, _, rfl, p, _, _, .ref r, rfl, rfl, SqL.of p6, at_last _ _, r, _, _, .ref x, rfl, rfl, SqL.of r6, at_0 _ _, .inl ⟨rfl, _, SqL.of x6⟩, ?_⟩
                refine ⟨_, rfl, _, rfl, a, g, o, sp + 1, tag, rfl, rd6, ht0.1, ⟨fun d k2 e2 v H7 b7 rd7 hv => ?_, fun k2 e2 d H7 b7 hd => bad (b6.trans b7) (step_part_bad g1 h6 e2) d hd⟩⟩
                have b57 := b6.trans b7
                obtain ⟨p7, r7, x7, i7, k7⟩ := keepA b57
                obtain ⟨dx7, ea7⟩ := rd7.at_
                have hsp7 := rd7.ko
                have hk2 : sp < k2 := by
                  have := part_spot (o := o) (tag := tag) (spot := sp + 1) (by have := (List.getElem?_eq_some_iff.mp g1).1; omega)
                  rw [e2] at this
                  have := this.1
                  simp only at this
                  omega
                have e0 := step_part (bl := bl) (xs := xs) (m := m') g1 h6 e2
                have hmu := step_mu (o := o) (s := ⟨bl, xs, m' + 1, sp⟩) sp5 e0
                have sm7 : Same H H7 := Same.but u.sm b57 (by simpa using nha)
                refine ⟨x, vs, v, rfl, rfl, x7, by rw [h3.len, sizeLine_eq]; omega, ?_⟩
                have e8 : upd H7 x (.lst (vs ++ [v])) x = some (.lst (vs ++ [v])) := upd_same
                have b8 : But [p, r, x] H7 (upd H7 x (.lst (vs ++ [v]))) := But.upd (by simp)
                have e8p : upd H7 x (.lst (vs ++ [v])) p = _ := (upd_ne np_x).trans p7
                have e8r : upd H7 x (.lst (vs ++ [v])) r = _ := (upd_ne nr_x).trans r7
                generalize upd H7 x (.lst (vs ++ [v])) = H8 at e8 b8 e8p e8r ⊢
                refine ⟨.ref p, rfl, _, rfl, p, _, _, .ref r, rfl, rfl, SqL.of e8p, at_last _ _, r, _, _, _, rfl, rfl, SqL.of e8r, at_1 _ _ _, _, _, rfl, rfl, r, _, _, 1, rfl, rfl, e8r, rfl, ?_⟩
                have ek : ([V.ref x, V.int ((m' + 1 : Nat) : Int)].set 1 (.int (((m' + 1 : Nat) : Int) - 1))) = [V.ref x, V.int (m' : Nat)] := by
                  have : ((m' + 1 : Nat) : Int) - 1 = (m' : Nat) := by omega
                  rw [this]
                  rfl
                rw [ek]
                have b9 : But [p, r, x] H8 (upd H8 r (.lst [.ref x, .int (m' : Nat)])) := But.upd (by simp)
                have e9 : upd H8 r (.lst [.ref x, .int (m' : Nat)]) r = some (.lst [.ref x, .int (m' : Nat)]) := upd_same
                have e9p : upd H8 r (.lst [.ref x, .int (m' : Nat)]) p = _ := (upd_ne np_r).trans e8p
                have e9x : upd H8 r (.lst [.ref x, .int (m' : Nat)]) x = _ := (upd_ne (Ne.symm nr_x)).trans e8
                generalize upd H8 r (.lst [.ref x, .int (m' : Nat)]) = H9 at b9 e9 e9p e9x ⊢
                have bb : But [p, r, x] H7 H9 := b8.trans b9
                have ns : NoT H7 [p, r, x] := noT_lst p7 (noT_lst r7 (noT_lst x7 noT_nil))
                have tk : Tk K H7 H9 := Tk.but bb ns
                refine ⟨⟨bl, xs ++ [d], m', k2⟩, (r, x) :: rs, _, _, _, hmu.1, rfl, wf_part u.wf hk2 hsp7, ?_, ?_, ?_, ?_, ?_, u.nd, u.nw⟩
                · rw [← fin_step (s := ⟨bl, xs, m' + 1, sp⟩) sp5 e0]
                  exact u.fn
                · refine Same.but sm7 bb fun c hc => nw c ?_
                  rcases (by simpa using hc : c = p ∨ c = r ∨ c = x) with rfl | rfl | rfl <;> simp
                · exact rd7.keep bb ns (by simp [na_p, na_r, na_x])
                · rw [rowsV_cons]; exact e9p
                · refine .cons e9 e9x ((i7.mono tk).app (.cons (Im.mono tk hv) .nil)) (k7.keep bb tk fun c hc hm => ?_)
                  rcases (by simpa using hm : c = p ∨ c = r ∨ c = x) with rfl | rfl | rfl
                  · exact np_f hc
                  · exact nr_f hc
                  · exact nx_f hc
            · obtain ⟨g1, rfl⟩ := oneR_end e1
              exact bad b6 (step_none g1) d hd
      · have cc : ¬ (bl ≠ [] ∨ 0 < mm) := fun z => c (decide_eq_true z)
        have hbl : bl = [] := Classical.byContradiction fun z => cc (.inl z)
        have hmm : mm = 0 := by
          have : ¬ 0 < mm := fun z => cc (.inr z)
          omega
        subst hbl hmm
        have hx1 : xs.length + 0 = 1 := u.wf.b0 rfl
        obtain ⟨d, rfl⟩ : ∃ d, xs = [d] := List.length_eq_one_iff.mp (by omega)
        have hrs : rs = [] := List.eq_nil_of_length_eq_zero (by rw [hl4]; rfl)
        subst hrs
        cases h3 with
        | @cons v vs' _ _ hv hn =>
        cases hn
        have fe : read o = if sp < o.length then .bad sp else .ok d := by
          rw [← u.fn]
          exact fin_end rfl
        refine ⟨.ref a, rfl, a, _, dx5, _, .int (sp : Nat), rfl, ea5, T.Reader.cl, T.Reader_spot, rfl, _, rfl, g, _, rfl, .inr u.rd.tup, _, _, rfl, rfl, _, rfl, ?_⟩
        refine ite2 (fun c8 => ?_) (fun c8 => ?_)
        · have hs : sp < o.length := by
            have := of_decide_eq_true c8
            rw [List.length_map] at this
            omega
          rw [if_pos hs] at fe
          exact ⟨.ref a, rfl, a, _, dx5, _, .int (sp : Nat), rfl, ea5, T.Reader.cl, T.Reader_spot, rfl, _, rfl, fun d' hd => pbad _ fe d' _ (Same.put u.sm (u.sm.free hd)) upd_same⟩
        · have hs : ¬ sp < o.length := fun z => c8 (decide_eq_true (by rw [List.length_map]; omega))
          rw [if_neg hs] at fe
          exact ⟨.ref p, rfl, p, _, _, .ref r, rfl, rfl, SqL.of pp, at_0 _ _, r, _, _, .ref x, rfl, rfl, SqL.of h1, at_0 _ _, x, _, _, v, rfl, rfl, SqL.of h2, at_0 _ _, pok d fe v _ u.sm hv⟩
    · refine ⟨.ref p, rfl, p, _, rfl, .inl (SqL.of pp), _, _, rfl, rfl, _, rfl, ?_⟩
      refine ite2 (fun c => ?_) (fun c => ?_)
      · have h := of_decide_eq_true c
        rw [len5] at h
        have hb : bl ≠ [] := fun z => by subst z; simp at h
        rwa [decide_eq_true (.inl hb)] at z
      · have h : ¬ (1 : Int) < ((rowsV rs ++ [V.ref r]).length : Nat) := fun z => c (decide_eq_true z)
        rw [len5] at h
        have hb : bl = [] := List.eq_nil_of_length_eq_zero (by omega)
        subst hb
        have hrs : rs = [] := List.eq_nil_of_length_eq_zero (by rw [hl4]; rfl)
        subst hrs
        refine ⟨.ref p, rfl, p, _, _, .ref r, rfl, rfl, SqL.of pp, at_0 _ _, r, _, _, _, rfl, rfl, SqL.of h1, at_1 _ _ _, _, _, rfl, rfl, _, rfl, ?_⟩
        have e : decide ((0 : Int) < ((mm : Nat) : Int)) = decide (([] : List (List D × Nat)) ≠ [] ∨ 0 < mm) := by
          by_cases q : 0 < mm
          · have q1 : (0 : Int) < ((mm : Nat) : Int) := by omega
            rw [decide_eq_true q1, decide_eq_true (Or.inr q)]
          · have q1 : ¬ (0 : Int) < ((mm : Nat) : Int) := by omega
            rw [decide_eq_false q1, decide_eq_false (by simp [q])]
        rw [e]
        exact z
end
end K77
end

section
set_option Elab.async false
set_option linter.all false
set_option maxRecDepth 100000
set_option maxHeartbeats 4000000
namespace K77
open PySem L2
section
variable {P : Program} {w : World} {K : PySem.W.Frag} {mg : Str → Option Value} {base : Heap}
/-! ### draws -/
theorem posM : (0 : Int) < 2147483563 := by decide
theorem posN : (0 : Int) < 2147483647 := by decide
theorem at_mod {α : Type} {l : List α} {i : Int} (h : 0 < l.length) : ∃ v, atI l (i % (l.length : Int)) = some v ∧ v ∈ l := by
  have h1 := Int.emod_nonneg i (b := (l.length : Int)) (by omega)
  have h2 := Int.emod_lt_of_pos i (b := (l.length : Int)) (by omega)
  have hl : (i % (l.length : Int)).toNat < l.length := by omega
  refine ⟨l[(i % (l.length : Int)).toNat], ?_, List.getElem_mem _⟩
  unfold atI ixN
  rw [if_pos h1, if_pos h2, Option.bind_some, List.getElem?_eq_getElem hl]
theorem at_in {α : Type} {l : List α} {i : Int} (h0 : 0 ≤ i) (h : i < l.length) : ∃ v, atI l i = some v ∧ v ∈ l ∧ l[i.toNat]? = some v := by
  have hl : i.toNat < l.length := by omega
  refine ⟨l[i.toNat], ?_, List.getElem_mem _, List.getElem?_eq_getElem hl⟩
  unfold atI ixN
  rw [if_pos h0, if_pos h, Option.bind_some, List.getElem?_eq_getElem hl]
theorem at_nat {α : Type} {l : List α} {i : Nat} {v : α} (h : l[i]? = some v) : atI l (i : Int) = some v := by
  have hl := (List.getElem?_eq_some_iff.mp h).1
  unfold atI ixN
  rw [if_pos (by omega), if_pos (by omega), Option.bind_some, Int.toNat_natCast, h]
def spBox (K : PySem.W.Frag) : Sp := fun vs H Q _ => ∃ (sc : Addr) (ns : List Int) (k : Int), vs = [.ref sc, .int k] ∧ SqL K H sc (ns.map V.int) ∧ 0 ≤ k ∧ ∀ p H' g t, H p = none → Same H H' → H' p = some (.lst [.int g, .int t]) → Q (.ref p) H'
theorem ok_box_end {H : Hp} {Q : VK} (q : ∀ p H' g t, H p = none → Same H H' → H' p = some (.lst [.int g, .int t]) → Q (.ref p) H') (sc : Addr) (k c : Int) :
    (tSeq (tAsg (tIf (tTest (tOp (rI0 fun i j => .bl (decide (j ≤ i))) (tVar 2) (tOp (rI CPow fun i j => .int (i ^ j.toNat)) (tC (.int 10)) (tC (.int 18))))) (tVar 2) (tC (.int 0))) (gName 3))
      (tRet (tLst (tCons (tVar 3) (tCons (tOp (rI0 fun i j => .int (i + j)) (tOp (rI (fun _ j => 0 < j) fun i j => .int (i % j)) (tCB (fun xs H Q => (∃ i, xs = [V.int i] ∧ Q (V.int i) H) ∨ ∃ k, xs = [V.bl k] ∧ Q (V.int (if k = true then 1 else 0)) H)
        (tCons (tOp (rI0 fun i j => .int (i + j)) (tOp (rI CMul fun i j => .int (i * j)) (tOp (rI (fun _ j => 0 < j) fun i j => .int (i % j)) (tCB (fun xs H Q => (∃ i, xs = [V.int i] ∧ Q (V.int i) H) ∨ ∃ k, xs = [V.bl k] ∧ Q (V.int (if k = true then 1 else 0)) H) (tCons (tVar 2) tNil)) (tC (.int 2147483563))) (tC (.int 54250027))) (tOp (rI CMul fun i j => .int (i * j)) (tC (.int 8101)) (tVar 1))) tNil)) (tC (.int 2147483563))) (tC (.int 1))) tNil)))))
      { nx := fun x H' => Q V.non H', rt := Q } [some (.ref sc), some (.int k), some (.int c), none] H := by
  refine ⟨_, rfl, _, _, rfl, rfl, ⟨by decide, by decide, by decide⟩, _, _, rfl, rfl, _, rfl, ?_⟩
  have last : ∀ g : Int, (tRet (tLst (tCons (tVar 3) (tCons (tOp (rI0 fun i j => .int (i + j)) (tOp (rI (fun _ j => 0 < j) fun i j => .int (i % j)) (tCB (fun xs H Q => (∃ i, xs = [V.int i] ∧ Q (V.int i) H) ∨ ∃ k, xs = [V.bl k] ∧ Q (V.int (if k = true then 1 else 0)) H)
        (tCons (tOp (rI0 fun i j => .int (i + j)) (tOp (rI CMul fun i j => .int (i * j)) (tOp (rI (fun _ j => 0 < j) fun i j => .int (i % j)) (tCB (fun xs H Q => (∃ i, xs = [V.int i] ∧ Q (V.int i) H) ∨ ∃ k, xs = [V.bl k] ∧ Q (V.int (if k = true then 1 else 0)) H) (tCons (tVar 2) tNil)) (tC (.int 2147483563))) (tC (.int 54250027))) (tOp (rI CMul fun i j => .int (i * j)) (tC (.int 8101)) (tVar 1))) tNil)) (tC (.int 2147483563))) (tC (.int 1))) tNil))))
      { nx := fun x H' => Q V.non H', rt := Q } [some (.ref sc), some (.int k), some (.int c), some (.int g)] H := fun g =>
    ⟨_, rfl, _, rfl, .inl ⟨_, rfl, _, _, rfl, rfl, posM, _, _, rfl, rfl, .inr ⟨by decide, by decide⟩, _, rfl, _, _, rfl, rfl, .inl ⟨by decide, by decide⟩, _, _, rfl, rfl, .inl ⟨_, rfl, _, _, rfl, rfl, posM, _, _, rfl, rfl, (by show 2 ≤ sizeLine; decide), fun p hp => q p _ _ _ hp (same_new hp) upd_same⟩⟩⟩
  refine ite2 (fun c => ⟨_, rfl, last _⟩) (fun c => last _)
theorem ok_box (T : Tx P K mg) : FnOk P w K mg base CX0 1 T._law_box.f T._law_box.fd ["script", "k"] (spBox K) := by
  refine T._law_box.F.ok sc__law_box (fun vs H Q E h => ?_) (fun cdv A outer s H vs Q E hr h => ?_)
  · obtain ⟨sc, ns, k, rfl, _⟩ := h
    rfl
  · obtain ⟨sc, ns, k, rfl, hs, hk, q⟩ := h
    refine ⟨_, (pss_cons (ps_set (i := 2) sc__law_box.nd rfl (by first | exact Or.inl rfl | exact Or.inr rfl) (pe_op op_add (pe_op op_mul pe_int (pv 1)) pe_int))
      (pss_cons (ps_if (pt_cmpR op_lt (pv 1) (pe_callB call_len_seq (by rfl) T.n_len PySem.boot_len (pa_cons (pv 0) pa_nil)) (nomark _)) (pss_one (ps_set (i := 2) sc__law_box.nd rfl (by first | exact Or.inl rfl | exact Or.inr rfl) (pe_callB call_abs (by rfl) T.n_abs PyProof.Rows.boot_abs (pa_cons (pe_callTy call_int1 (by rfl) T.n_int PyProof.Rows.boot_int (pa_cons (pe_ix ix_list (pv 0) (pv 1) (fun _ _ => rfl)) pa_nil)) pa_nil)))) (pss_one (ps_if (pt_cmpR op_gt (pe_callB call_len_seq (by rfl) T.n_len PySem.boot_len (pa_cons (pv 0) pa_nil)) pe_int (nomark _)) (pss_one (ps_set (i := 2) sc__law_box.nd rfl (by first | exact Or.inl rfl | exact Or.inr rfl) (pe_op op_add (pv 2) (pe_op op_mul (pe_op op_mod (pe_callTy call_int1 (by rfl) T.n_int PyProof.Rows.boot_int (pa_cons (pe_callB call_abs (by rfl) T.n_abs PyProof.Rows.boot_abs (pa_cons (pe_callTy call_int1 (by rfl) T.n_int PyProof.Rows.boot_int (pa_cons (pe_ix ix_list (pv 0) (pe_op op_mod (pe_callTy call_int1 (by rfl) T.n_int PyProof.Rows.boot_int (pa_cons (pv 1) pa_nil)) (pe_callB call_len_seq (by rfl) T.n_len PySem.boot_len (pa_cons (pv 0) pa_nil))) (fun _ _ => rfl)) pa_nil)) pa_nil)) pa_nil)) pe_int) pe_int)))) pss_nil)))
      (pss_cons (ps_set (i := 3) sc__law_box.nd rfl (by first | exact Or.inl rfl | exact Or.inr rfl) (pe_ifExp (pt_cmpR op_ge (pv 2) (pe_op op_pow pe_int pe_int) (nomark _)) (pv 2) pe_int))
      (pss_one (ps_ret (pe_lst (pa_cons (pv 3) (pa_cons (pe_op op_add (pe_op op_mod (pe_callTy call_int1 (by rfl) T.n_int PyProof.Rows.boot_int (pa_cons (pe_op op_add (pe_op op_mul (pe_op op_mod (pe_callTy call_int1 (by rfl) T.n_int PyProof.Rows.boot_int (pa_cons (pv 2) pa_nil)) pe_int) pe_int) (pe_op op_mul pe_int (pv 1))) pa_nil)) pe_int) pe_int) pa_nil)))))))), ?_⟩
    refine ⟨_, rfl, _, _, rfl, rfl, .inl ⟨by decide, by decide⟩, _, _, rfl, rfl, ?_⟩
    refine ⟨_, rfl, _, rfl, sc, _, rfl, .inl hs, _, _, rfl, rfl, _, rfl, ?_⟩
    refine ite2 (fun c => ?_) (fun c => ?_)
    · have hl := of_decide_eq_true c
      obtain ⟨v, hv, hm, _⟩ := at_in (l := ns.map V.int) hk hl
      obtain ⟨i, _, rfl⟩ := List.mem_map.mp hm
      refine ⟨_, rfl, _, rfl, sc, _, _, _, rfl, rfl, hs, hv, .inl ⟨i, rfl, _, rfl, ?_⟩⟩
      exact ok_box_end q _ _ _
    · refine ⟨_, rfl, sc, _, rfl, .inl hs, _, _, rfl, rfl, _, rfl, ?_⟩
      refine ite2 (fun c => ?_) (fun c => ?_)
      · have hl := of_decide_eq_true c
        obtain ⟨v, hv, hm⟩ := at_mod (l := ns.map V.int) (i := k) (by omega)
        obtain ⟨i, _, rfl⟩ := List.mem_map.mp hm
        refine ⟨_, rfl, _, rfl, _, rfl, .inl ⟨k, rfl, _, rfl, sc, _, rfl, .inl hs, _, _, rfl, rfl, by omega, sc, _, _, _, rfl, rfl, hs, hv, .inl ⟨i, rfl, _, rfl, .inl ⟨_, rfl, _, _, rfl, rfl, posM, _, _, rfl, rfl, .inr ⟨by decide, by decide⟩, _, _, rfl, rfl, ?_⟩⟩⟩⟩
        exact ok_box_end q _ _ _
      · exact ok_box_end q _ _ _

/-- a box at b -/
def Box (H : Hp) (b : Addr) : Prop := ∃ g t : Int, H b = some (.lst [.int g, .int t])
theorem Box.noT {H : Hp} {b : Addr} (h : Box H b) : NoT H [b] := by
  obtain ⟨g, t, e⟩ := h
  exact noT_lst e noT_nil
theorem Box.same {H H' : Hp} {b : Addr} (h : Box H b) (s : Same H H') : Box H' b := by
  obtain ⟨g, t, e⟩ := h
  exact ⟨g, t, s _ _ e⟩
def spTake : Sp := fun vs H Q _ => ∃ (b : Addr) (m : Int), vs = [.ref b, .int m] ∧ Box H b ∧ 0 < m ∧ m < 1073741824 ∧ ∀ (r : Int) H', 0 ≤ r → r < m → But [b] H H' → Box H' b → (∀ c, H c = none → H' c = none) → Q (.int r) H'
theorem ok_take (T : Tx P K mg) : FnOk P w K mg base CX0 1 T._law_take.f T._law_take.fd ["box", "many"] spTake := by
  refine T._law_take.F.ok sc__law_take (fun vs H Q E h => ?_) (fun cdv A outer s H vs Q E hr h => ?_)
  · obtain ⟨b, m, rfl, _⟩ := h
    rfl
  · obtain ⟨b, m, rfl, ⟨g, t, eb⟩, h0, h1, q⟩ := h
    have nn : ∀ (o : HO) c, H c = none → upd H b o c = none := fun o c hc => by
      have : c ≠ b := fun z => by rw [z, eb] at hc; cases hc
      rw [upd_ne this]
      exact hc
    refine ⟨_, (pss_cons (ps_if (pt_cmpR op_gt (pe_ix ix_list (pv 0) pe_int (fun _ _ => rfl)) pe_int (nomark _)) (pss_cons (ps_set (i := 2) sc__law_take.nd rfl (by first | exact Or.inl rfl | exact Or.inr rfl) (pe_op op_mod (pe_callTy call_int1 (by rfl) T.n_int PyProof.Rows.boot_int (pa_cons (pe_ix ix_list (pv 0) pe_int (fun _ _ => rfl)) pa_nil)) (pv 1)))
      (pss_cons (ps_asg (pe_op op_fdiv (pe_ix ix_list (pv 0) pe_int (fun _ _ => rfl)) (pv 1)) (pg_sub (pv 0) pe_int set_list))
      (pss_one (ps_ret (pv 2))))) pss_nil)
      (pss_cons (ps_set (i := 3) sc__law_take.nd rfl (by first | exact Or.inl rfl | exact Or.inr rfl) (pe_op op_mod (pe_callTy call_int1 (by rfl) T.n_int PyProof.Rows.boot_int (pa_cons (pe_op op_add (pe_op op_mul (pe_ix ix_list (pv 0) pe_int (fun _ _ => rfl)) pe_int) pe_int) pa_nil)) pe_int))
      (pss_cons (ps_asg (pe_op op_add (pe_op op_mod (pe_callTy call_int1 (by rfl) T.n_int PyProof.Rows.boot_int (pa_cons (pe_op op_add (pe_op op_mul (pv 3) pe_int) pe_int) pa_nil)) pe_int) pe_int) (pg_sub (pv 0) pe_int set_list))
      (pss_one (ps_ret (pe_op op_mod (pe_callTy call_int1 (by rfl) T.n_int PyProof.Rows.boot_int (pa_cons (pe_op op_fdiv (pe_op op_add (pe_op op_mul (pv 3) pe_int) (pe_ix ix_list (pv 0) pe_int (fun _ _ => rfl))) pe_int) pa_nil)) (pv 1))))))), ?_⟩
    refine ⟨_, rfl, b, _, _, _, rfl, rfl, SqL.of eb, at_0 _ _, _, _, rfl, rfl, _, rfl, ?_⟩
    refine ite2 (fun c => ?_) (fun c => ?_)
    · refine ⟨_, rfl, b, _, _, _, rfl, rfl, SqL.of eb, at_0 _ _, .inl ⟨_, rfl, _, rfl, _, _, rfl, rfl, h0, ?_⟩⟩
      refine ⟨_, rfl, b, _, _, _, rfl, rfl, SqL.of eb, at_0 _ _, _, rfl, _, _, rfl, rfl, ⟨h0, h1⟩, ?_⟩
      refine ⟨_, rfl, b, _, _, 0, rfl, rfl, eb, rfl, ?_⟩
      exact ⟨_, rfl, q _ _ (Int.emod_nonneg _ (by omega)) (Int.emod_lt_of_pos _ h0) (But.upd (by simp)) ⟨_, _, upd_same⟩ (nn _)⟩
    · refine ⟨_, rfl, b, _, _, _, rfl, rfl, SqL.of eb, at_1 _ _ _, _, _, rfl, rfl, .inr ⟨by decide, by decide⟩, _, _, rfl, rfl, .inl ⟨_, rfl, _, _, rfl, rfl, posN, ?_⟩⟩
      refine ⟨_, rfl, _, _, rfl, rfl, .inr ⟨by decide, by decide⟩, _, _, rfl, rfl, .inl ⟨_, rfl, _, _, rfl, rfl, posM, _, _, rfl, rfl, _, rfl, b, _, _, 1, rfl, rfl, eb, rfl, ?_⟩⟩
      refine ⟨_, rfl, _, _, rfl, rfl, .inr ⟨by decide, by decide⟩, _, rfl, b, _, _, _, rfl, rfl, SqL.of upd_same, at_1 _ _ _, _, _, rfl, rfl, _, _, rfl, rfl, ⟨by decide, by decide⟩, .inl ⟨_, rfl, _, rfl, _, _, rfl, rfl, h0, ?_⟩⟩
      exact q _ _ (Int.emod_nonneg _ (by omega)) (Int.emod_lt_of_pos _ h0) (But.upd (by simp)) ⟨_, _, upd_same⟩ (nn _)
def spPick : Sp := fun vs H Q _ => ∃ (b l : Addr) (xs : List V), vs = [.ref b, .ref l] ∧ Box H b ∧ H l = some (.lst xs) ∧ l ≠ b ∧ 0 < xs.length ∧ xs.length < 1073741824 ∧ ∀ v H', v ∈ xs → But [b] H H' → Box H' b → (∀ c, H c = none → H' c = none) → Q v H'
theorem ok_pick (T : Tx P K mg) (G__law_take : FnOk P w K mg base CX0 1 T._law_take.f T._law_take.fd ["box", "many"] spTake) :
    FnOk P w K mg base CX0 2 T._law_pick.f T._law_pick.fd ["box", "some"] spPick := by
  refine T._law_pick.F.ok sc__law_pick (fun vs H Q E h => ?_) (fun cdv A outer s H vs Q E hr h => ?_)
  · obtain ⟨b, m, xs, rfl, _⟩ := h
    rfl
  · obtain ⟨b, l, xs, rfl, hb, hl, hn, h0, h1, q⟩ := h
    refine ⟨_, (pss_one (ps_ret (pe_ix ix_list (pv 1) (pe_call G__law_take (hr.mono (by decide)) rfl T._law_take.m T._law_take.F.kp T._law_take.b .nil pass0 (pa_cons (pv 0) (pa_cons (pe_callB call_len_seq (by rfl) T.n_len PySem.boot_len (pa_cons (pv 1) pa_nil)) pa_nil))) (fun _ _ => rfl)))), ?_⟩
    refine ⟨_, rfl, _, rfl, _, rfl, l, _, rfl, .inl (SqL.of hl), b, _, rfl, hb, by omega, by omega, fun r H' r0 r1 bt bx nn => ?_⟩
    obtain ⟨v, hv, hm, _⟩ := at_in (l := xs) r0 r1
    exact ⟨l, xs, r, v, rfl, rfl, SqL.of (bt _ _ (by simpa using hn) hl), hv, q v H' hm bt bx nn⟩
end
end K77
end

section
set_option Elab.async false
set_option linter.all false
set_option maxRecDepth 100000
set_option maxHeartbeats 4000000
namespace K77
open PySem L2
section
variable {P : Program} {w : World} {K : PySem.W.Frag} {mg : Str → Option Value} {base : Heap}
/-! ### the law's signs, sevens -/
def spSigns : Sp := fun vs H Q _ => vs = [] ∧ Q (.str sigS) H
theorem ok_signs (T : Tx P K mg) : FnOk P w K mg base CX0 1 T._law_signs.f T._law_signs.fd [] spSigns := by
  refine T._law_signs.F.ok sc__law_signs (fun vs H Q E h => ?_) (fun cdv A outer s H vs Q E hr h => ?_)
  · obtain ⟨rfl, _⟩ := h
    rfl
  · obtain ⟨rfl, q⟩ := h
    exact ⟨_, (pss_one (ps_ret pe_str)), q⟩
theorem cut_init {xs : List V} {x : V} : cutV (xs ++ [x]) none (some (-1)) = xs := by
  unfold cutV HT.sIx
  simp only [List.length_append, List.length_cons, List.length_nil]
  rw [if_pos (by decide)]
  have e : ((-1 : Int) + ((xs.length + (0 + 1) : Nat) : Int)).toNat = xs.length := by omega
  rw [e]
  simp
theorem ok_sevens (T : Tx P K mg) : FnOk P w K mg base CX0 1 T._law_sevens.f T._law_sevens.fd ["number"] spCounted := by
  refine T._law_sevens.F.ok sc__law_sevens (fun vs H Q E h => ?_) (fun cdv A outer s H vs Q E hr h => ?_)
  · obtain ⟨n, rfl, _⟩ := h
    rfl
  · obtain ⟨n, rfl, hn, q⟩ := h
    refine ⟨_, (pss_cons (ps_set (i := 1) sc__law_sevens.nd rfl (by first | exact Or.inl rfl | exact Or.inr rfl) (pe_lst (pa_cons (pe_op op_mod (pv 0) pe_int) pa_nil)))
      (pss_cons (ps_for PassesOwn.never rfl (pi_range1 (by rfl) T.n_range (pa_cons pe_int pa_nil)) (pg_name (i := 2) sc__law_sevens.nd rfl (by first | exact Or.inl rfl | exact Or.inr rfl)) (pss_cons (ps_set (i := 0) sc__law_sevens.nd rfl (by first | exact Or.inl rfl | exact Or.inr rfl) (pe_op op_fdiv (pv 0) pe_int))
      (pss_cons (ps_if (pt_cmpR op_eq (pv 0) pe_int (nomark _)) (pss_one ps_break) pss_nil)
      (pss_one (ps_set (i := 1) sc__law_sevens.nd rfl (by first | exact Or.inl rfl | exact Or.inr rfl) (pe_op op_cat (pe_slice sl_list (pv 1) po_none (po_some (pe_un un_neg pe_int))) (pe_lst (pa_cons (pe_op op_add (pe_ix ix_list (pv 1) (pe_un un_neg pe_int) (fun _ _ => rfl)) pe_int) (pa_cons (pe_op op_mod (pv 0) pe_int) pa_nil)))))))))
      (pss_one (ps_ret (pv 1))))), ?_⟩
    refine ⟨_, rfl, _, _, rfl, rfl, (by show (0 : Int) < 128; decide), (by show 1 ≤ sizeLine; decide), fun p hp => ?_⟩
    have s1 : Same H (upd H p (.lst [.int ((n : Int) % 128)])) := same_new hp
    have e1 : upd H p (.lst [.int ((n : Int) % 128)]) p = some (.lst [.int ((n : Int) % 128)]) := upd_same
    generalize upd H p (.lst [.int ((n : Int) % 128)]) = H1 at s1 e1 ⊢
    refine ⟨400, rfl, by decide, by decide, for_range (fun i σ H' => ∃ (k : Nat) (f : Addr) (acc : List Int) (u : Option V), σ = [some (.int k), some (.ref f), u] ∧ H f = none ∧ Same H H' ∧ H' f = some (.lst (acc.map V.int ++ [.int ((k : Int) % 128)])) ∧ acc ++ sev k = sev n ∧ acc.length = i)
      ⟨n, p, [], none, rfl, hp, s1, e1, rfl, rfl⟩ ?_ ?_⟩
    · rintro i σ H2 hi ⟨k, f, acc, u, rfl, hf, s2, e2, ea, hl⟩
      refine ⟨_, rfl, _, _, rfl, rfl, ⟨by decide, by decide⟩, ?_⟩
      have hsl := sev_len 8 n hn
      refine ⟨_, rfl, rfl, _, rfl, ?_⟩
      refine ite2 (fun c => ?_) (fun c => ?_)
      · have hk : k < 128 := by
          have := vint_eq c
          omega
        rw [sev_lo hk] at ea
        refine ⟨_, rfl, q f _ hf s2 ?_⟩
        have em : ((k : Int) % 128) = (k : Int) := by omega
        rw [e2, ← ea, List.map_append, em]
        rfl
      · have hk : ¬ k < 128 := by
          have := vint_ne c
          omega
        rw [sev_hi hk] at ea
        have hll : acc.length ≤ 9 := by
          rw [← ea] at hsl
          rw [List.length_append] at hsl
          omega
        refine ⟨_, rfl, _, rfl, _, rfl, f, _, rfl, SqL.of e2, fun p1 hp1 => ?_⟩
        rw [cut_init]
        have s3 : Same H2 (upd H2 p1 (.lst (acc.map V.int))) := same_new hp1
        have e3 : upd H2 p1 (.lst (acc.map V.int)) p1 = some (.lst (acc.map V.int)) := upd_same
        generalize upd H2 p1 (.lst (acc.map V.int)) = H3 at s3 e3 ⊢
        refine ⟨_, rfl, _, rfl, f, _, _, _, rfl, rfl, SqL.of (s3 _ _ e2), at_last _ _, _, _, rfl, rfl, ?_⟩
        refine ⟨_, rfl, _, _, rfl, rfl, (by show (0 : Int) < 128; decide), (by show 2 ≤ sizeLine; decide), fun p2 hp2 => ?_⟩
        have s4 : Same H3 (upd H3 p2 (.lst [.int ((k : Int) % 128 + 128), .int ((k : Int) / 128 % 128)])) := same_new hp2
        have e4 : upd H3 p2 (.lst [.int ((k : Int) % 128 + 128), .int ((k : Int) / 128 % 128)]) p2 = some (.lst [.int ((k : Int) % 128 + 128), .int ((k : Int) / 128 % 128)]) := upd_same
        generalize upd H3 p2 (.lst [.int ((k : Int) % 128 + 128), .int ((k : Int) / 128 % 128)]) = H4 at s4 e4 ⊢
        refine ⟨p1, p2, _, _, rfl, rfl, s4 _ _ e3, e4, by rw [List.length_map, sizeLine_eq]; simp; omega, fun p3 hp3 => ?_⟩
        have s5 := s2.trans (s3.trans s4)
        have hf3 : H p3 = none := s5.free hp3
        refine ⟨k / 128, p3, acc ++ [((k % 128 + 128 : Nat) : Int)], _, rfl, hf3, Same.put s5 hf3, ?_, by rw [← ea, List.append_assoc]; rfl, by rw [List.length_append, hl]; rfl⟩
        rw [upd_same, List.map_append, List.append_assoc]
        rfl
    · rintro σ H2 ⟨k, f, acc, u, rfl, hf, s2, e2, ea, hl⟩
      have hsl := sev_len 8 n hn
      rw [← ea, List.length_append, hl] at hsl
      omega
/-! ### the law's reading of a number -/
def numV : Option Int → V
  | none => .non
  | some n => .int n
def spSevRead (K : PySem.W.Frag) : Sp := fun vs H Q _ => ∃ (g : Addr) (o : List Int) (k : Nat), vs = [.ref g, .int k] ∧ SqT K H g (o.map V.int) ∧ k ≤ o.length ∧ Oct o ∧ o.length ≤ 1000000 ∧
  ∀ p H', Same H H' → H' p = some (.tup [numV (num o k).1, .int ((num o k).2 : Nat)]) → Q (.ref p) H'
theorem ok_sevread (T : Tx P K mg) : FnOk P w K mg base CX0 1 T._law_sevens_read.f T._law_sevens_read.fd ["octets", "spot"] (spSevRead K) := by
  refine T._law_sevens_read.F.ok sc__law_sevens_read (fun vs H Q E h => ?_) (fun cdv A outer s H vs Q E hr h => ?_)
  · obtain ⟨g, o, k, rfl, _⟩ := h
    rfl
  · obtain ⟨g, o, k0, rfl, hg, hk, ho, hz, q⟩ := h
    refine ⟨_, (pss_cons (ps_asg (pe_tup (pa_cons pe_int (pa_cons pe_int pa_nil))) (pg_tup rfl (pgs_cons (pg_name (i := 2) sc__law_sevens_read.nd rfl (by first | exact Or.inl rfl | exact Or.inr rfl)) (pgs_cons (pg_name (i := 3) sc__law_sevens_read.nd rfl (by first | exact Or.inl rfl | exact Or.inr rfl)) pgs_nil))))
      (pss_cons (ps_for PassesOwn.never rfl (pi_range1 (by rfl) T.n_range (pa_cons (pe_op op_add (pe_callB call_len_seq (by rfl) T.n_len PySem.boot_len (pa_cons (pv 0) pa_nil)) pe_int) pa_nil)) (pg_name (i := 4) sc__law_sevens_read.nd rfl (by first | exact Or.inl rfl | exact Or.inr rfl)) (pss_cons (ps_if (pt_cmpR op_ge (pv 1) (pe_callB call_len_seq (by rfl) T.n_len PySem.boot_len (pa_cons (pv 0) pa_nil)) (nomark _)) (pss_one (ps_ret (pe_tup (pa_cons pe_non (pa_cons (pv 1) pa_nil))))) pss_nil)
      (pss_cons (ps_par (i := 5) (j := 1) rfl sc__law_sevens_read.nd rfl rfl (by decide) rfl rfl (pa_cons (pe_ix ix_tup (pv 0) (pv 1) (fun _ _ => rfl)) (pa_cons (pe_op op_add (pv 1) pe_int) pa_nil)) (by rfl))
      (pss_cons (ps_if (pt_cmpR op_lt (pv 5) pe_int (nomark _)) (pss_one (ps_ret (pe_tup (pa_cons (pe_ifExp (PW.pt (pw_and (pt_cmpR op_eq (pv 5) pe_int (nomark _)) (pw_and1 (pt_cmpR op_gt (pv 3) pe_int (nomark _))))) pe_non (pe_op op_add (pv 2) (pe_op op_mul (pv 5) (pv 3)))) (pa_cons (pv 1) pa_nil))))) pss_nil)
      (pss_one (ps_par (i := 2) (j := 3) rfl sc__law_sevens_read.nd rfl rfl (by decide) rfl rfl (pa_cons (pe_op op_add (pv 2) (pe_op op_mul (pe_op op_sub (pv 5) pe_int) (pv 3))) (pa_cons (pe_op op_mul (pv 3) pe_int) pa_nil)) (by rfl)))))))
      (pss_one (ps_ret (pe_tup (pa_cons pe_non (pa_cons (pv 1) pa_nil))))))), ?_⟩
    refine ⟨(by show 2 ≤ sizeLine; decide), fun t0 ht0 => ?_⟩
    have s1 : Same H (upd H t0 (.tup [.int 0, .int 1])) := same_new ht0
    have e1 : upd H t0 (.tup [.int 0, .int 1]) t0 = some (.tup [.int 0, .int 1]) := upd_same
    generalize upd H t0 (.tup [.int 0, .int 1]) = H1 at s1 e1 ⊢
    refine ⟨t0, _, rfl, SqT.of e1, rfl, _, _, rfl, _, _, rfl, rfl, ?_⟩
    refine ⟨_, rfl, g, _, rfl, .inr (Tk.same s1 _ _ hg), _, _, rfl, rfl, _, rfl, by rw [List.length_map]; omega, by rw [List.length_map]; omega, ?_⟩
    have hto : (((o.map V.int).length : Int) + 1).toNat = o.length + 1 := by rw [List.length_map]; omega
    rw [hto]
    have out : ∀ (r : Option Int) (k : Nat) (kk : Int) (H2 : Hp), Same H1 H2 → num o k0 = (r, k) → kk = (k : Nat) → ∀ p, H2 p = none → Q (.ref p) (upd H2 p (.tup [numV r, .int kk])) := fun r k kk H2 s2 e ek p hp => by
      subst ek
      refine q p _ (s1.trans (s2.trans (same_new hp))) ?_
      rw [upd_same, e]
    refine for_range (fun i σ H' => ∃ (tot tm : Int) (u v : Option V), σ = [some (.ref g), some (.int ((k0 + i : Nat) : Int)), some (.int tot), some (.int tm), u, v] ∧ Same H1 H' ∧ k0 + i ≤ o.length ∧ sevR (o.drop (k0 + i)) tot tm (k0 + i) = num o k0)
      ⟨0, 1, none, none, rfl, Same.refl _, hk, rfl⟩ ?_ ?_
    · rintro i σ H2 hi ⟨tot, tm, u, v, rfl, s2, hki, es⟩
      have hg2 := Tk.same (s1.trans s2) _ _ hg
      refine ⟨_, rfl, _, rfl, g, _, rfl, .inr hg2, _, _, rfl, rfl, _, rfl, ?_⟩
      rw [List.length_map]
      refine ite2 (fun c => ?_) (fun c => ?_)
      · have hl : o.length ≤ k0 + i := by
          have := of_decide_eq_true c
          omega
        rw [List.drop_eq_nil_of_le hl] at es
        exact ⟨_, rfl, (by show 2 ≤ sizeLine; decide), out none (k0 + i) _ H2 s2 es.symm rfl⟩
      · have hl : k0 + i < o.length := by
          have : ¬ (o.length : Int) ≤ ((k0 + i : Nat) : Int) := fun z => c (decide_eq_true z)
          omega
        have ex : o[k0 + i]? = some o[k0 + i] := by simp [hl]
        have hx := ho _ (List.getElem_mem hl)
        generalize o[k0 + i] = x at ex hx
        have eu : ((k0 + i : Nat) : Int) + 1 = ((k0 + (i + 1) : Nat) : Int) := by omega
        refine ⟨_, rfl, _, rfl, g, _, _, .int x, rfl, rfl, hg2, at_nat (by rw [List.getElem?_map, ex]; rfl), _, rfl, _, _, rfl, rfl, _, _, rfl, ?_⟩
        rw [drop_get ex] at es
        unfold sevR at es
        refine ⟨_, rfl, _, _, rfl, rfl, _, rfl, ?_⟩
        refine ite2 (fun c1 => ?_) (fun c1 => ?_)
        · have hx1 : x < 128 := of_decide_eq_true c1
          rw [if_neg (by omega)] at es
          refine ⟨_, rfl, rfl, _, rfl, ?_⟩
          refine ite2 (fun c2 => ?_) (fun c2 => ?_)
          · obtain rfl := vint_eq c2
            refine ⟨_, rfl, _, _, rfl, rfl, _, rfl, ?_⟩
            refine ite2 (fun c3 => ?_) (fun c3 => ?_)
            · rw [if_pos ⟨rfl, of_decide_eq_true c3⟩] at es
              exact ⟨_, rfl, (by show 2 ≤ sizeLine; decide), out none _ _ H2 s2 es.symm eu⟩
            · rw [if_neg (fun z => c3 (decide_eq_true z.2))] at es
              exact ⟨_, rfl, _, rfl, _, rfl, _, _, rfl, rfl, .inl ⟨by decide, by decide⟩, _, _, rfl, rfl, _, rfl, (by show 2 ≤ sizeLine; decide), out (some _) _ _ H2 s2 es.symm eu⟩
          · rw [if_neg (fun z => vint_ne c2 z.1)] at es
            exact ⟨_, rfl, _, rfl, _, rfl, _, _, rfl, rfl, .inl ⟨by omega, by omega⟩, _, _, rfl, rfl, _, rfl, (by show 2 ≤ sizeLine; decide), out (some _) _ _ H2 s2 es.symm eu⟩
        · have hx1 : 127 < x := by
            have : ¬ x < 128 := fun z => c1 (decide_eq_true z)
            omega
          rw [if_pos hx1] at es
          refine ⟨_, rfl, _, rfl, _, _, rfl, rfl, _, rfl, _, _, rfl, rfl, .inl ⟨by omega, by omega⟩, _, _, rfl, rfl, _, rfl, _, _, rfl, rfl, .inr ⟨by decide, by decide⟩, _, _, rfl, ?_⟩
          refine ⟨tot + (x - 128) * tm, tm * 128, some (.int (0 + (i : Nat))), some (.int x), ?_, s2, by omega, es⟩
          rw [← eu]
          rfl
    · rintro σ H2 ⟨tot, tm, u, v, rfl, s2, hki, es⟩
      omega
end
end K77
end

section
set_option Elab.async false
set_option linter.all false
set_option maxRecDepth 100000
set_option maxHeartbeats 4000000
namespace K77
open PySem L2
section
variable {P : Program} {w : World} {K : PySem.W.Frag} {mg : Str → Option Value} {base : Heap}
/-- what the law's reading of a part gives -/
def oneV (K : PySem.W.Frag) (H : Hp) (u : V) : Option D → Prop
  | none => u = .non
  | some d => ∃ q v, u = .ref q ∧ SqT K H q [v] ∧ Im K H v d
def spOneRead (K : PySem.W.Frag) : Sp := fun vs H Q _ => ∃ (g : Addr) (o : List Int) (tag : Int) (k : Nat), vs = [.ref g, .int tag, .int k] ∧ SqT K H g (o.map V.int) ∧ k ≤ o.length ∧ Oct o ∧ Cap 7 o ∧ o.length ≤ 1000000 ∧ 0 ≤ tag ∧
  ∀ p H' u, Same H H' → H' p = some (.tup [u, .int ((part o tag k).2 : Nat)]) → oneV K H' u (part o tag k).1 → Q (.ref p) H'
theorem snocS (acc : List Nat) (c : Nat) : (⟨acc.toArray⟩ : Str) ++ (⟨#[c]⟩ : Str) = ⟨(acc ++ [c]).toArray⟩ := by
  show (⟨acc.toArray ++ #[c]⟩ : Str) = _
  simp
theorem ok_oneread (T : Tx P K mg) (G__law_sevens_read : FnOk P w K mg base CX0 1 T._law_sevens_read.f T._law_sevens_read.fd ["octets", "spot"] (spSevRead K))
    (G__law_signs : FnOk P w K mg base CX0 1 T._law_signs.f T._law_signs.fd [] spSigns) :
    FnOk P w K mg base CX0 2 T._law_one_read.f T._law_one_read.fd ["octets", "tag", "spot"] (spOneRead K) := by
  refine T._law_one_read.F.ok sc__law_one_read (fun vs H Q E h => ?_) (fun cdv A outer s H vs Q E hr h => ?_)
  · obtain ⟨g, o, tag, k, rfl, _⟩ := h
    rfl
  · obtain ⟨g, o, tag, k0, rfl, hg, hk, ho, hc, hz, ht, q⟩ := h
    have fin2 : ∀ (d : D) (k : Nat) (kk : Int) (v : V) (H2 : Hp), Same H H2 → part o tag k0 = (some d, k) → kk = (k : Nat) → Im K H2 v d → ∀ t2, H2 t2 = none → ∀ t3, upd H2 t2 (.tup [v]) t3 = none → Q (.ref t3) (upd (upd H2 t2 (.tup [v])) t3 (.tup [.ref t2, .int kk])) := fun d k kk v H2 s2 e ek hv t2 h2 t3 h3 => by
      subst ek
      have s3 : Same H2 (upd H2 t2 (.tup [v])) := same_new h2
      have e3 : upd H2 t2 (.tup [v]) t2 = some (.tup [v]) := upd_same
      generalize upd H2 t2 (.tup [v]) = H3 at s3 e3 h3 ⊢
      have s4 : Same H3 (upd H3 t3 (.tup [.ref t2, .int (k : Nat)])) := same_new h3
      refine q t3 _ (.ref t2) (s2.trans (s3.trans s4)) (by rw [upd_same, e]) ?_
      rw [e]
      exact ⟨t2, v, rfl, SqT.of (s4 _ _ e3), hv.mono (Tk.same (s3.trans s4))⟩
    have fin0 : ∀ (k : Nat) (kk : Int) (H2 : Hp), Same H H2 → part o tag k0 = (none, k) → kk = (k : Nat) → ∀ t3, H2 t3 = none → Q (.ref t3) (upd H2 t3 (.tup [.non, .int kk])) := fun k kk H2 s2 e ek t3 h3 => by
      subst ek
      refine q t3 _ .non (s2.trans (same_new h3)) (by rw [upd_same, e]) ?_
      rw [e]
      rfl
    refine ⟨_, (pss_cons (ps_if (pt_cmpR op_lt (pv 1) pe_int (nomark _)) (pss_one (ps_ret (pe_tup (pa_cons (pe_tup (pa_cons (pe_ix ix_tup (pe_tup (pa_cons pe_non (pa_cons pe_bl (pa_cons pe_bl pa_nil)))) (pv 1) (fun _ _ => rfl)) pa_nil)) (pa_cons (pv 2) pa_nil))))) pss_nil)
      (pss_cons (ps_asg (pe_ifExp (pt_cmpR op_lt (pv 1) pe_int (nomark _)) (pe_call G__law_sevens_read (hr.mono (by decide)) rfl T._law_sevens_read.m T._law_sevens_read.F.kp T._law_sevens_read.b .nil pass0 (pa_cons (pv 0) (pa_cons (pv 2) pa_nil))) (pe_tup (pa_cons pe_non (pa_cons (pv 2) pa_nil)))) (pg_tup rfl (pgs_cons (pg_name (i := 3) sc__law_one_read.nd rfl (by first | exact Or.inl rfl | exact Or.inr rfl)) (pgs_cons (pg_name (i := 2) sc__law_one_read.nd rfl (by first | exact Or.inl rfl | exact Or.inr rfl)) pgs_nil))))
      (pss_cons (ps_if (PW.pt (pw_or (pt_cmpR op_isN (pv 3) pe_non (nomark _)) (pw_or1 (PW.pt (pw_and (pt_cmpR op_eq (pv 1) pe_int (nomark _)) (pw_and1 (pt_cmpR op_eq (pv 3) pe_int (nomark _)))))))) (pss_one (ps_ret (pe_tup (pa_cons pe_non (pa_cons (pv 2) pa_nil))))) pss_nil)
      (pss_cons (ps_if (pt_cmpR op_lt (pv 1) pe_int (nomark _)) (pss_one (ps_ret (pe_tup (pa_cons (pe_tup (pa_cons (pe_ifExp (pt_cmpR op_eq (pv 1) pe_int (nomark _)) (pv 3) (pe_op op_sub pe_int (pv 3))) pa_nil)) (pa_cons (pv 2) pa_nil))))) pss_nil)
      (pss_cons (ps_set (i := 4) sc__law_one_read.nd rfl (by first | exact Or.inl rfl | exact Or.inr rfl) pe_str)
      (pss_cons (ps_for PassesOwn.never rfl (pi_range1 (by rfl) T.n_range (pa_cons (pe_callB (call_min2 rfl) (by rfl) T.n_min PyProof.Rows.boot_min (pa_cons (pv 3) (pa_cons (pe_op op_add (pe_callB call_len_seq (by rfl) T.n_len PySem.boot_len (pa_cons (pv 0) pa_nil)) pe_int) pa_nil))) pa_nil)) (pg_name (i := 5) sc__law_one_read.nd rfl (by first | exact Or.inl rfl | exact Or.inr rfl)) (pss_cons (ps_if (PW.pt (pw_or (pt_cmpR op_ge (pv 2) (pe_callB call_len_seq (by rfl) T.n_len PySem.boot_len (pa_cons (pv 0) pa_nil)) (nomark _)) (pw_or1 (pt_cmpR op_gt (pe_ix ix_tup (pv 0) (pv 2) (fun _ _ => rfl)) pe_int (nomark _))))) (pss_one (ps_ret (pe_tup (pa_cons pe_non (pa_cons (pe_ifExp (pt_cmpR op_ge (pv 2) (pe_callB call_len_seq (by rfl) T.n_len PySem.boot_len (pa_cons (pv 0) pa_nil)) (nomark _)) (pv 2) (pe_op op_add (pv 2) pe_int)) pa_nil))))) pss_nil)
      (pss_one (ps_par (i := 4) (j := 2) rfl sc__law_one_read.nd rfl rfl (by decide) rfl rfl (pa_cons (pe_op op_add_str (pv 4) (pe_item_str (pe_call0 G__law_signs (hr.mono (by decide)) rfl T._law_signs.m T._law_signs.F.kp T._law_signs.b .nil pass0) (pe_ix ix_tup (pv 0) (pv 2) (fun _ _ => rfl)) (fun _ _ => rfl))) (pa_cons (pe_op op_add (pv 2) pe_int) pa_nil)) (by rfl)))))
      (pss_one (ps_ret (pe_tup (pa_cons (pe_tup (pa_cons (pv 4) pa_nil)) (pa_cons (pv 2) pa_nil))))))))))), ?_⟩
    refine ⟨_, rfl, _, _, rfl, rfl, _, rfl, ?_⟩
    refine ite2 (fun c => ?_) (fun c => ?_)
    · have h3 : tag < 3 := of_decide_eq_true c
      refine ⟨(by show 3 ≤ sizeLine; decide), fun t1 ht1 => ?_⟩
      have s1 : Same H (upd H t1 (.tup [.non, .bl false, .bl true])) := same_new ht1
      have e1 : upd H t1 (.tup [.non, .bl false, .bl true]) t1 = some (.tup [.non, .bl false, .bl true]) := upd_same
      generalize upd H t1 (.tup [.non, .bl false, .bl true]) = H1 at s1 e1 ⊢
      obtain rfl | rfl | rfl : tag = 0 ∨ tag = 1 ∨ tag = 2 := by omega
      · exact ⟨_, rfl, t1, _, _, .non, rfl, rfl, SqT.of e1, rfl, (by show 1 ≤ sizeLine; decide), fun t2 h2 => ⟨_, rfl, (by show 2 ≤ sizeLine; decide), fin2 .non k0 _ .non H1 s1 rfl rfl .non t2 h2⟩⟩
      · exact ⟨_, rfl, t1, _, _, .bl false, rfl, rfl, SqT.of e1, rfl, (by show 1 ≤ sizeLine; decide), fun t2 h2 => ⟨_, rfl, (by show 2 ≤ sizeLine; decide), fin2 (.bl false) k0 _ _ H1 s1 rfl rfl (.bl false) t2 h2⟩⟩
      · exact ⟨_, rfl, t1, _, _, .bl true, rfl, rfl, SqT.of e1, rfl, (by show 1 ≤ sizeLine; decide), fun t2 h2 => ⟨_, rfl, (by show 2 ≤ sizeLine; decide), fin2 (.bl true) k0 _ _ H1 s1 rfl rfl (.bl true) t2 h2⟩⟩
    · have h3 : ¬ tag < 3 := fun z => c (decide_eq_true z)
      refine ⟨_, rfl, _, _, rfl, rfl, _, rfl, ?_⟩
      refine ite2 (fun c => ?_) (fun c => ?_)
      · have h6 : tag < 6 := of_decide_eq_true c
        refine ⟨_, rfl, _, rfl, g, o, k0, rfl, hg, hk, ho, hz, fun t1 H1 s1 e1 => ?_⟩
        refine ⟨t1, _, rfl, SqT.of e1, rfl, _, _, rfl, _, _, rfl, rfl, ?_⟩
        have n0 := @num_nonneg o k0
        have ns := @num_spot o k0 hk
        cases en : num o k0 with
        | mk r k1 =>
        rw [en] at ns
        simp only at ns
        cases r with
        | none =>
          refine ⟨_, rfl, rfl, _, rfl, ?_⟩
          refine ⟨_, rfl, (by show 2 ≤ sizeLine; decide), fin0 k1 _ H1 s1 ?_ rfl⟩
          unfold part
          rw [if_neg (by omega), if_neg (by omega), if_neg (by omega), en]
          by_cases h34 : tag = 3 ∨ tag = 4
          · rw [if_pos h34]
          · rw [if_neg h34, if_neg (by omega)]
        | some n =>
          have hn := n0 ho en
          have hns := num_small ho hc en
          refine ⟨_, rfl, rfl, _, rfl, ?_⟩
          refine ⟨_, rfl, rfl, _, rfl, ?_⟩
          obtain rfl | rfl | rfl : tag = 3 ∨ tag = 4 ∨ tag = 5 := by omega
          · have ep : part o 3 k0 = (some (.int n), k1) := by
              unfold part
              rw [if_neg (by decide), if_neg (by decide), if_neg (by decide), if_pos (.inl rfl), en]
              rfl
            refine ite2 (fun c => absurd (vint_eq c) (by decide)) (fun _ => iteF ?_)
            refine ⟨_, rfl, _, _, rfl, rfl, _, rfl, iteT ?_⟩
            refine ⟨_, rfl, rfl, _, rfl, iteT ⟨_, rfl, (by show 1 ≤ sizeLine; decide), fun t2 h2 => ⟨_, rfl, (by show 2 ≤ sizeLine; decide), fin2 _ k1 _ _ H1 s1 ep rfl (.int n) t2 h2⟩⟩⟩
          · refine ite2 (fun _ => ?_) (fun c => absurd rfl (vint_ne c))
            refine ⟨_, rfl, rfl, _, rfl, ?_⟩
            refine ite2 (fun c => ?_) (fun c => ?_)
            · obtain rfl := vint_eq c
              have ep : part o 4 k0 = (none, k1) := by
                unfold part
                rw [if_neg (by decide), if_neg (by decide), if_neg (by decide), if_pos (.inr rfl), en]
                rfl
              exact ⟨_, rfl, (by show 2 ≤ sizeLine; decide), fin0 k1 _ H1 s1 ep rfl⟩
            · have n0' := vint_ne c
              have ep : part o 4 k0 = (some (.int (0 - n)), k1) := by
                unfold part
                rw [if_neg (by decide), if_neg (by decide), if_neg (by decide), if_pos (.inr rfl), en]
                show (if (4 : Int) = 4 ∧ n = 0 then _ else _) = _
                rw [if_neg (fun z => n0' z.2)]
                rfl
              refine ⟨_, rfl, _, _, rfl, rfl, _, rfl, iteT ?_⟩
              refine ⟨_, rfl, rfl, _, rfl, ite2 (fun c => absurd (vint_eq c) (by decide)) (fun _ => ?_)⟩
              exact ⟨_, rfl, _, _, rfl, rfl, (by show 1 ≤ sizeLine; decide), fun t2 h2 => ⟨_, rfl, (by show 2 ≤ sizeLine; decide), fin2 _ k1 _ _ H1 s1 ep rfl (.int _) t2 h2⟩⟩
          · refine ite2 (fun c => absurd (vint_eq c) (by decide)) (fun _ => iteF ?_)
            refine ⟨_, rfl, _, _, rfl, rfl, _, rfl, iteF ?_⟩
            have hg1 := Tk.same s1 _ _ hg
            have ep : part o 5 k0 = match txtR n.toNat (o.drop k1) k1 [] with
              | (none, s') => (none, s')
              | (some t, s') => (some (.str ⟨t.toArray⟩), s') := by
              unfold part
              first
                | (rw [if_neg (by decide), if_neg (by decide), if_neg (by decide), if_neg (by decide), if_neg (by decide), en]; done)
                | (rw [if_neg (by decide), if_neg (by decide), if_neg (by decide), if_neg (by decide), if_neg (by decide), en]
                   show (match txtR n.toNat (o.drop k1) k1 [] with
                     | (none, s') => ((none : Option D), s')
                     | (some t, s') => (some (.str ⟨t.toArray⟩), s')) = _
                   generalize txtR n.toNat (o.drop k1) k1 [] = r
                   obtain ⟨r1, r2⟩ := r
                   cases r1 <;> rfl)
            have hlen : (o.map V.int).length = o.length := List.length_map ..
            refine ⟨_, rfl, _, rfl, g, _, rfl, .inr hg1, _, _, rfl, rfl, _, _, rfl, ?_⟩
            rw [hlen]
            obtain ⟨mm, hmm, hml⟩ : ∃ mm : Int, (if (o.length : Int) + 1 < n then (o.length : Int) + 1 else n) = mm ∧ 0 ≤ mm ∧ mm ≤ n ∧ mm ≤ o.length + 1 ∧ (mm = n ∨ mm = o.length + 1) := by
              refine ⟨_, rfl, ?_⟩
              by_cases z : (o.length : Int) + 1 < n
              · rw [if_pos z]; omega
              · rw [if_neg z]; omega
            rw [hmm]
            refine ⟨mm, rfl, by omega, by omega, ?_⟩
            have ea0 : ∀ i : Nat, ((k1 + i : Nat) : Int) + 1 = ((k1 + (i + 1) : Nat) : Int) := fun i => by omega
            refine for_range (fun i σ H' => ∃ (acc : List Nat) (u : Option V), σ = [some (.ref g), some (.int 5), some (.int ((k1 + i : Nat) : Int)), some (.int n), some (.str ⟨acc.toArray⟩), u] ∧ Same H H' ∧ k1 + i ≤ o.length ∧ acc.length = i ∧
                txtR (n.toNat - i) (o.drop (k1 + i)) (k1 + i) acc = txtR n.toNat (o.drop k1) k1 [])
              ⟨[], none, rfl, s1, ns.2, rfl, rfl⟩ ?_ ?_
            · rintro i σ H2 hi ⟨acc, u, rfl, s2, hki, hacc, et⟩
              have hg2 := Tk.same s2 _ _ hg
              obtain ⟨j, ej⟩ : ∃ j, n.toNat - i = j + 1 := ⟨n.toNat - i - 1, by omega⟩
              have ej2 : n.toNat - (i + 1) = j := by omega
              rw [ej] at et
              refine ⟨_, rfl, _, rfl, g, _, rfl, .inr hg2, _, _, rfl, rfl, _, rfl, ?_⟩
              rw [hlen]
              refine ite2 (fun c => ?_) (fun c => ?_)
              · have hl : o.length ≤ k1 + i := by
                  have := of_decide_eq_true c
                  omega
                rw [List.drop_eq_nil_of_le hl] at et
                have et2 : txtR n.toNat (o.drop k1) k1 [] = (none, k1 + i) := et.symm
                rw [et2] at ep
                refine ⟨_, rfl, _, rfl, g, _, rfl, .inr hg2, _, _, rfl, rfl, _, rfl, ?_⟩
                rw [hlen]
                refine ite2 (fun _ => ?_) (fun c2 => absurd c c2)
                exact ⟨_, rfl, (by show 2 ≤ sizeLine; decide), fin0 (k1 + i) _ H2 s2 ep rfl⟩
              · have hl : k1 + i < o.length := by
                  have : ¬ (o.length : Int) ≤ ((k1 + i : Nat) : Int) := fun z => c (decide_eq_true z)
                  omega
                have ex : o[k1 + i]? = some o[k1 + i] := by simp [hl]
                have hx := ho _ (List.getElem_mem hl)
                generalize o[k1 + i] = x at ex hx
                rw [drop_get ex] at et
                refine ⟨_, rfl, _, rfl, g, _, _, .int x, rfl, rfl, hg2, at_nat (by rw [List.getElem?_map, ex]; rfl), _, _, rfl, rfl, _, rfl, ?_⟩
                refine ite2 (fun c1 => ?_) (fun c1 => ?_)
                · have hx1 : 93 < x := of_decide_eq_true c1
                  have et2 : txtR n.toNat (o.drop k1) k1 [] = (none, k1 + i + 1) := by
                    rw [← et]
                    show (if 93 < x then _ else _) = _
                    rw [if_pos hx1]
                  rw [et2] at ep
                  refine ⟨_, rfl, _, rfl, g, _, rfl, .inr hg2, _, _, rfl, rfl, _, rfl, ?_⟩
                  rw [hlen]
                  refine ite2 (fun c2 => absurd c2 c) (fun c2 => ?_)
                  exact ⟨_, rfl, _, _, rfl, rfl, (by show 2 ≤ sizeLine; decide), fin0 (k1 + i + 1) _ H2 s2 ep (by omega)⟩
                · have hx1 : ¬ 93 < x := fun z => c1 (decide_eq_true z)
                  have et2 : txtR j (o.drop (k1 + (i + 1))) (k1 + (i + 1)) (acc ++ [sigs.getD x.toNat 0]) = txtR n.toNat (o.drop k1) k1 [] := by
                    rw [← et]
                    show _ = (if 93 < x then _ else _)
                    rw [if_neg hx1]
                    rfl
                  refine ⟨_, rfl, rfl, _, rfl, _, rfl, g, _, _, .int x, rfl, rfl, hg2, at_nat (by rw [List.getElem?_map, ex]; rfl), _, _, _, rfl, rfl, by omega, by omega, by rw [sigS_len]; omega, sigS_get hx.1 (by omega), _, _, rfl, rfl, ?_, ?_⟩
                  · show acc.toArray.size + 1 ≤ sizeLine
                    rw [List.size_toArray, sizeLine_eq]
                    omega
                  · refine ⟨_, rfl, _, _, rfl, rfl, _, _, rfl, acc ++ [sigs.getD x.toNat 0], some (.int (0 + (i : Nat))), ?_, s2, by omega, by rw [List.length_append, hacc]; rfl, ?_⟩
                    · rw [snocS, ← ea0]
                      rfl
                    · rw [ej2]
                      exact et2
            · rintro σ H2 ⟨acc, u, rfl, s2, hki, hacc, et⟩
              have hmn : mm = n := by omega
              subst hmn
              rw [Nat.sub_self] at et
              have et2 : txtR mm.toNat (o.drop k1) k1 [] = (some acc, k1 + mm.toNat) := et.symm
              rw [et2] at ep
              exact ⟨_, rfl, (by show 1 ≤ sizeLine; decide), fun t2 h2 => ⟨_, rfl, (by show 2 ≤ sizeLine; decide), fin2 _ (k1 + mm.toNat) _ _ H2 s2 ep rfl (.str _) t2 h2⟩⟩
      · have h6 : ¬ tag < 6 := fun z => c (decide_eq_true z)
        refine ⟨_, rfl, (by show 2 ≤ sizeLine; decide), fun t1 ht1 => ?_⟩
        have s1 : Same H (upd H t1 (.tup [.non, .int (k0 : Nat)])) := same_new ht1
        have e1 : upd H t1 (.tup [.non, .int (k0 : Nat)]) t1 = some (.tup [.non, .int (k0 : Nat)]) := upd_same
        generalize upd H t1 (.tup [.non, .int (k0 : Nat)]) = H1 at s1 e1 ⊢
        refine ⟨t1, _, rfl, SqT.of e1, rfl, _, _, rfl, _, _, rfl, rfl, ?_⟩
        refine ⟨_, rfl, rfl, _, rfl, ?_⟩
        refine ⟨_, rfl, (by show 2 ≤ sizeLine; decide), fin0 k0 _ H1 s1 ?_ rfl⟩
        unfold part
        rw [if_neg (by omega), if_neg (by omega), if_neg (by omega), if_neg (by omega), if_pos (by omega)]
end
end K77
end

section
set_option Elab.async false
set_option linter.all false
set_option maxRecDepth 100000
set_option maxHeartbeats 4000000
namespace K77
open PySem L2
section
variable {P : Program} {w : World} {K : PySem.W.Frag} {mg : Str → Option Value} {base : Heap}
def resD : Res → D
  | .ok d => .tup [.bl true, d]
  | .bad k => .tup [.bl false, .int (k : Nat)]
def spRead (K : PySem.W.Frag) : Sp := fun vs H Q _ => ∃ (g : Addr) (o : List Int), vs = [.ref g] ∧ SqT K H g (o.map V.int) ∧ Oct o ∧ Cap 7 o ∧ o.length ≤ 1000000 ∧ ∀ v H', Same H H' → Im K H' v (resD (read o)) → Q v H'
theorem set_last {α : Type} (l : List α) (u v : α) : (l ++ [u]).set l.length v = l ++ [v] := by
  rw [List.set_append_right _ _ (Nat.le_refl _), Nat.sub_self]
  rfl
theorem ixN_last {α : Type} (l : List α) (u : α) : ixN (l ++ [u]).length (-1) = some l.length := by
  unfold ixN
  rw [if_neg (by decide), if_pos (by rw [List.length_append]; simp only [List.length_cons, List.length_nil]; omega)]
  simp only [List.length_append, List.length_cons, List.length_nil]
  congr 1
  omega
/-- the law's loop -/
structure LW (K : PySem.W.Frag) (p : Addr) (H H' : Hp) (o : List Int) (s : Stt) (rs : List (Addr × Addr)) : Prop where
  wf : WF o s
  fn : fin o s = read o
  sm : Same H H'
  pp : H' p = some (.lst (rowsV rs))
  st : Stk K H' rs (frs s)
  np : p ∉ flat rs
  hp : H p = none
theorem ok_read (T : Tx P K mg) (G__law_sevens_read : FnOk P w K mg base CX0 1 T._law_sevens_read.f T._law_sevens_read.fd ["octets", "spot"] (spSevRead K))
    (G__law_one_read : FnOk P w K mg base CX0 2 T._law_one_read.f T._law_one_read.fd ["octets", "tag", "spot"] (spOneRead K)) :
    FnOk P w K mg base CX0 3 T._law_read.f T._law_read.fd ["octets"] (spRead K) := by
  refine T._law_read.F.ok sc__law_read (fun vs H Q E h => ?_) (fun cdv A outer s H vs Q E hr h => ?_)
  · obtain ⟨g, o, rfl, _⟩ := h
    rfl
  · obtain ⟨g, o, rfl, hg, ho, hc, hz, q⟩ := h
    have retF : ∀ (k : Nat) (kk : Int) (H2 : Hp), Same H H2 → read o = .bad k → kk = (k : Nat) → ∀ t, H2 t = none → Q (.ref t) (upd H2 t (.tup [.bl false, .int kk])) := fun k kk H2 s2 e ek t ht => by
      subst ek
      refine q _ _ (s2.trans (same_new ht)) ?_
      rw [e]
      exact .tup (SqT.of upd_same) (.cons (.bl false) (.cons (.int _) .nil))
    have hlen : (o.map V.int).length = o.length := List.length_map ..
    refine ⟨_, (pss_cons (ps_par (i := 1) (j := 2) rfl sc__law_read.nd rfl rfl (by decide) rfl rfl (pa_cons (pe_lst (pa_cons (pe_lst (pa_cons (pe_lst pa_nil) (pa_cons pe_int pa_nil))) pa_nil)) (pa_cons pe_int pa_nil)) (by rfl))
      (pss_cons (ps_for PassesOwn.never rfl (pi_range1 (by rfl) T.n_range (pa_cons (pe_op op_add (pe_op op_mul pe_int (pe_callB call_len_seq (by rfl) T.n_len PySem.boot_len (pa_cons (pv 0) pa_nil))) pe_int) pa_nil)) (pg_name (i := 3) sc__law_read.nd rfl (by first | exact Or.inl rfl | exact Or.inr rfl)) (pss_cons (ps_if (pt_cmpR op_eq (pe_ix ix_list (pe_ix ix_list (pv 1) (pe_un un_neg pe_int) (fun _ _ => rfl)) pe_int (fun _ _ => rfl)) pe_int (nomark _)) (pss_cons (ps_if (pt_cmpR op_eq (pe_callB call_len_seq (by rfl) T.n_len PySem.boot_len (pa_cons (pv 1) pa_nil)) pe_int (nomark _)) (pss_one (ps_ret (pe_ifExp (pt_cmpR op_lt (pv 2) (pe_callB call_len_seq (by rfl) T.n_len PySem.boot_len (pa_cons (pv 0) pa_nil)) (nomark _)) (pe_tup (pa_cons pe_bl (pa_cons (pv 2) pa_nil))) (pe_tup (pa_cons pe_bl (pa_cons (pe_ix ix_list (pe_ix ix_list (pe_ix ix_list (pv 1) pe_int (fun _ _ => rfl)) pe_int (fun _ _ => rfl)) pe_int (fun _ _ => rfl)) pa_nil)))))) pss_nil)
      (pss_cons (ps_set (i := 4) sc__law_read.nd rfl (by first | exact Or.inl rfl | exact Or.inr rfl) (pe_tupleOf rfl T.n_tuple (pe_ix ix_list (pe_bm0 PySem.F.plainAttrs_list PySem.F.slot_list_pop PySem.F.type_list_pop mt_pop (pv 1)) pe_int (fun _ _ => rfl))))
      (pss_cons (ps_asg (pe_lst (pa_cons (pe_op op_cat (pe_ix ix_list (pe_ix ix_list (pv 1) (pe_un un_neg pe_int) (fun _ _ => rfl)) pe_int (fun _ _ => rfl)) (pe_lst (pa_cons (pv 4) pa_nil))) (pa_cons (pe_op op_sub (pe_ix ix_list (pe_ix ix_list (pv 1) (pe_un un_neg pe_int) (fun _ _ => rfl)) pe_int (fun _ _ => rfl)) pe_int) pa_nil))) (pg_sub (pv 1) (pe_un un_neg pe_int) set_list))
      (pss_one ps_continue)))) pss_nil)
      (pss_cons (ps_if (pt_cmpR op_ge (pv 2) (pe_callB call_len_seq (by rfl) T.n_len PySem.boot_len (pa_cons (pv 0) pa_nil)) (nomark _)) (pss_one (ps_ret (pe_tup (pa_cons pe_bl (pa_cons (pv 2) pa_nil))))) pss_nil)
      (pss_cons (ps_par (i := 5) (j := 2) rfl sc__law_read.nd rfl rfl (by decide) rfl rfl (pa_cons (pe_ix ix_tup (pv 0) (pv 2) (fun _ _ => rfl)) (pa_cons (pe_op op_add (pv 2) pe_int) pa_nil)) (by rfl))
      (pss_cons (ps_if (pt_cmpR op_eq (pv 5) pe_int (nomark _)) (pss_cons (ps_asg (pe_call G__law_sevens_read (hr.mono (by decide)) rfl T._law_sevens_read.m T._law_sevens_read.F.kp T._law_sevens_read.b .nil pass0 (pa_cons (pv 0) (pa_cons (pv 2) pa_nil))) (pg_tup rfl (pgs_cons (pg_name (i := 6) sc__law_read.nd rfl (by first | exact Or.inl rfl | exact Or.inr rfl)) (pgs_cons (pg_name (i := 2) sc__law_read.nd rfl (by first | exact Or.inl rfl | exact Or.inr rfl)) pgs_nil))))
      (pss_cons (ps_if (PW.pt (pw_or (pt_cmpR op_isN (pv 6) pe_non (nomark _)) (pw_or1 (pt_cmpR op_gt (pv 6) (pe_callB call_len_seq (by rfl) T.n_len PySem.boot_len (pa_cons (pv 0) pa_nil)) (nomark _))))) (pss_one (ps_ret (pe_tup (pa_cons pe_bl (pa_cons (pv 2) pa_nil))))) pss_nil)
      (pss_cons (ps_expr (pe_bm PySem.F.plainAttrs_list PySem.F.slot_list_append PySem.F.type_list_append mt_append (pv 1) (pa_cons (pe_lst (pa_cons (pe_lst pa_nil) (pa_cons (pv 6) pa_nil))) pa_nil)))
      (pss_one ps_continue)))) pss_nil)
      (pss_cons (ps_asg (pe_call G__law_one_read (hr.mono (by decide)) rfl T._law_one_read.m T._law_one_read.F.kp T._law_one_read.b .nil pass0 (pa_cons (pv 0) (pa_cons (pv 5) (pa_cons (pv 2) pa_nil)))) (pg_tup rfl (pgs_cons (pg_name (i := 7) sc__law_read.nd rfl (by first | exact Or.inl rfl | exact Or.inr rfl)) (pgs_cons (pg_name (i := 2) sc__law_read.nd rfl (by first | exact Or.inl rfl | exact Or.inr rfl)) pgs_nil))))
      (pss_cons (ps_if (pt_cmpR op_isN (pv 7) pe_non (nomark _)) (pss_one (ps_ret (pe_tup (pa_cons pe_bl (pa_cons (pv 2) pa_nil))))) pss_nil)
      (pss_one (ps_asg (pe_lst (pa_cons (pe_op op_cat (pe_ix ix_list (pe_ix ix_list (pv 1) (pe_un un_neg pe_int) (fun _ _ => rfl)) pe_int (fun _ _ => rfl)) (pe_lst (pa_cons (pe_ix ix_tup (pv 7) pe_int (fun _ _ => rfl)) pa_nil))) (pa_cons (pe_op op_sub (pe_ix ix_list (pe_ix ix_list (pv 1) (pe_un un_neg pe_int) (fun _ _ => rfl)) pe_int (fun _ _ => rfl)) pe_int) pa_nil))) (pg_sub (pv 1) (pe_un un_neg pe_int) set_list))))))))))
      (pss_one (ps_ret (pe_tup (pa_cons pe_bl (pa_cons (pv 2) pa_nil))))))), ?_⟩
    refine ⟨Nat.zero_le _, fun x0 hx0 => ?_⟩
    have s2 : Same H (upd H x0 (.lst [])) := same_new hx0
    have e2 : upd H x0 (.lst []) x0 = some (.lst []) := upd_same
    generalize upd H x0 (.lst []) = H2 at s2 e2 ⊢
    refine ⟨(by show 2 ≤ sizeLine; decide), fun r0 hr0 => ?_⟩
    have s3 : Same H2 (upd H2 r0 (.lst [.ref x0, .int 1])) := same_new hr0
    have e3 : upd H2 r0 (.lst [.ref x0, .int 1]) r0 = some (.lst [.ref x0, .int 1]) := upd_same
    generalize upd H2 r0 (.lst [.ref x0, .int 1]) = H3 at s3 e3 ⊢
    refine ⟨(by show 1 ≤ sizeLine; decide), fun p hp => ?_⟩
    have s4 : Same H3 (upd H3 p (.lst [.ref r0])) := same_new hp
    have e4 : upd H3 p (.lst [.ref r0]) p = some (.lst [.ref r0]) := upd_same
    generalize upd H3 p (.lst [.ref r0]) = H4 at s4 e4 ⊢
    have n5 : p ≠ x0 := fun z => by rw [z, s3 _ _ e2] at hp; cases hp
    have n6 : p ≠ r0 := fun z => by rw [z, e3] at hp; cases hp
    have u0 : LW K p H H4 o begun [(r0, x0)] :=
      ⟨wf_begun o, (read_fin o).symm, s2.trans (s3.trans s4), e4, .cons (s4 _ _ e3) (s4 _ _ (s3 _ _ e2)) .nil .nil, by simp [flat, n5, n6], (s2.trans s3).free hp⟩
    refine ⟨_, _, rfl, ?_⟩
    refine ⟨_, rfl, g, _, rfl, .inr (Tk.same u0.sm _ _ hg), _, _, rfl, rfl, .inl ⟨by decide, by decide⟩, _, _, rfl, rfl, _, rfl, by rw [hlen]; omega, by rw [hlen]; omega, ?_⟩
    rw [hlen]
    have hto : (2 * (o.length : Int) + 3).toNat = 2 * o.length + 3 := by omega
    rw [hto]
    refine for_range (fun i σ H' => ∃ (s : Stt) (rs : List (Addr × Addr)) (u3 u4 u5 u6 u7 : Option V), σ = [some (.ref g), some (.ref p), some (.int (s.spot : Nat)), u3, u4, u5, u6, u7] ∧ LW K p H H' o s rs ∧ mu o s + i < 2 * o.length + 3)
      ⟨begun, _, none, none, none, none, none, rfl, u0, by show 2 * (o.length - 0) + 0 + 0 < _; omega⟩ ?_ ?_
    · rintro i σ H5 hi ⟨⟨bl, xs, mm, sp⟩, rs, u3, u4, u5, u6, u7, rfl, u, hmu⟩
      have hg5 := Tk.same u.sm _ _ hg
      have st := u.st
      unfold frs at st
      cases st with
      | @cons r x _ vs _ rs _ h1 h2 h3 h4 =>
      have pp := u.pp
      rw [rowsV_cons] at pp
      replace h1 : H5 r = some (.lst [.ref x, .int (mm : Nat)]) := h1
      replace h3 : ImL K H5 vs xs := h3
      replace h4 : Stk K H5 rs (bl.map fun q => (q.1, q.2 + 1)) := h4
      have hl4 : rs.length = bl.length := by
        have := h4.len
        rwa [List.length_map] at this
      have tt5 : xs.length + bl.length + (bl.map fun q => q.1.length).sum ≤ sp := u.wf.tt
      have sp5 : sp ≤ o.length := u.wf.sp
      have len5 : (rowsV rs ++ [V.ref r]).length = bl.length + 1 := by rw [List.length_append, rowsV_len, hl4]; rfl
      have spn : sp ≤ 1000000 := Nat.le_trans sp5 hz
      have np := u.np
      rw [flat_cons] at np
      simp only [List.mem_cons, not_or] at np
      obtain ⟨np_r, np_x, np_f⟩ := np
      refine ⟨_, rfl, _, rfl, p, _, _, _, rfl, rfl, SqL.of pp, at_last _ _, r, _, _, _, rfl, rfl, SqL.of h1, at_1 _ _ _, rfl, _, rfl, ?_⟩
      refine ite2 (fun c2 => ?_) (fun c2 => ?_)
      · have hm0 : mm = 0 := by
          have := vint_eq c2
          omega
        subst hm0
        refine ⟨_, rfl, p, _, rfl, .inl (SqL.of pp), rfl, _, rfl, ?_⟩
        rw [len5]
        refine ite2 (fun c3 => ?_) (fun c3 => ?_)
        · have hb : bl = [] := by
            have := vint_eq c3
            exact List.eq_nil_of_length_eq_zero (by omega)
          subst hb
          have hx1 : xs.length + 0 = 1 := u.wf.b0 rfl
          obtain ⟨d, rfl⟩ : ∃ d, xs = [d] := List.length_eq_one_iff.mp (by omega)
          have hrs : rs = [] := List.eq_nil_of_length_eq_zero (by rw [hl4]; rfl)
          subst hrs
          cases h3 with
          | @cons v vs' _ _ hv hn =>
          cases hn
          have fe : read o = if sp < o.length then .bad sp else .ok d := by
            rw [← u.fn]
            exact fin_end rfl
          refine ⟨_, rfl, _, rfl, g, _, rfl, .inr hg5, _, _, rfl, rfl, _, rfl, ?_⟩
          rw [hlen]
          refine ite2 (fun c8 => ?_) (fun c8 => ?_)
          · have hs : sp < o.length := by
              have : ((sp : Nat) : Int) < (o.length : Nat) := of_decide_eq_true c8
              omega
            rw [if_pos hs] at fe
            exact ⟨_, rfl, (by show 2 ≤ sizeLine; decide), retF sp _ H5 u.sm fe rfl⟩
          · have hs : ¬ sp < o.length := fun z => c8 (decide_eq_true (by show ((sp : Nat) : Int) < (o.length : Nat); omega))
            rw [if_neg hs] at fe
            refine ⟨_, rfl, p, _, _, .ref r, rfl, rfl, SqL.of pp, at_0 _ _, r, _, _, .ref x, rfl, rfl, SqL.of h1, at_0 _ _, x, _, _, v, rfl, rfl, SqL.of h2, at_0 _ _, (by show 2 ≤ sizeLine; decide), fun t ht => ?_⟩
            refine q _ _ (u.sm.trans (same_new ht)) ?_
            rw [fe]
            exact .tup (SqT.of upd_same) (.cons (.bl true) (.cons (hv.mono (Tk.same (same_new ht))) .nil))
        · cases bl with
          | nil => exact absurd (by rfl) (vint_ne c3)
          | cons yk bl =>
          obtain ⟨ys, k⟩ := yk
          rw [List.map_cons] at h4
          cases h4 with
          | @cons r2 x2 _ vs2 _ rs _ g1 g2 g3 g4 =>
          rw [rowsV_cons] at pp
          have e0 : step o ⟨(ys, k) :: bl, xs, 0, sp⟩ = .inl ⟨bl, ys ++ [.tup xs], k, sp⟩ := rfl
          rw [flat_cons] at np_f
          simp only [List.mem_cons, not_or] at np_f
          obtain ⟨np_r2, np_x2, np_f⟩ := np_f
          have hx2l : vs2.length = ys.length := g3.len
          refine ⟨_, rfl, .inl ⟨rfl, _, SqL.of pp⟩, p, _, .ref r, rfl, rfl, pp, by simp, r, _, _, .ref x, rfl, rfl, SqL.of (by rw [upd_ne (Ne.symm np_r)]; exact h1), at_0 _ _, .inl ⟨x, vs, rfl, SqL.of (by rw [upd_ne (Ne.symm np_x)]; exact h2), fun q hq => ?_⟩⟩
          rw [List.dropLast_concat] at hq ⊢
          have e6 : upd H5 p (.lst (rowsV rs ++ [V.ref r2])) p = some (.lst (rowsV rs ++ [V.ref r2])) := upd_same
          have b6 : But [p] H5 (upd H5 p (.lst (rowsV rs ++ [V.ref r2]))) := But.upd (by simp)
          generalize upd H5 p (.lst (rowsV rs ++ [V.ref r2])) = H6 at e6 b6 hq ⊢
          have s7 : Same H6 (upd H6 q (.tup vs)) := same_new hq
          have e7 : upd H6 q (.tup vs) q = some (.tup vs) := upd_same
          generalize upd H6 q (.tup vs) = H7 at s7 e7 ⊢
          have b7 : But [p] H5 H7 := b6.trans (But.of s7)
          have nt : NoT H5 [p] := noT_lst u.pp noT_nil
          have f7 : ∀ {c o}, c ≠ p → H5 c = some o → H7 c = some o := fun h e => b7 _ _ (by simpa using h) e
          -- rows[-1] = [rows[-1][0] + [part], rows[-1][1] - 1]
          refine ⟨_, rfl, _, rfl, p, _, _, .ref r2, rfl, rfl, SqL.of (s7 _ _ e6), at_last _ _, r2, _, _, .ref x2, rfl, rfl, SqL.of (f7 (Ne.symm np_r2) g1), at_0 _ _, _, rfl, (by show 1 ≤ sizeLine; decide), fun l1 hl1 => ?_⟩
          have s8 : Same H7 (upd H7 l1 (.lst [.ref q])) := same_new hl1
          have e8 : upd H7 l1 (.lst [.ref q]) l1 = some (.lst [.ref q]) := upd_same
          generalize upd H7 l1 (.lst [.ref q]) = H8 at s8 e8 ⊢
          refine ⟨x2, l1, _, _, rfl, rfl, s8 _ _ (f7 (Ne.symm np_x2) g2), e8, ?_, fun l2 hl2 => ?_⟩
          · simp only [List.map_cons, List.sum_cons] at tt5
            have e9 : ([V.ref q]).length = 1 := rfl
            rw [hx2l, sizeLine_eq, e9]
            show ys.length + 1 ≤ _
            omega
          have s9 : Same H8 (upd H8 l2 (.lst (vs2 ++ [.ref q]))) := same_new hl2
          have e9 : upd H8 l2 (.lst (vs2 ++ [.ref q])) l2 = some (.lst (vs2 ++ [.ref q])) := upd_same
          generalize upd H8 l2 (.lst (vs2 ++ [.ref q])) = H9 at s9 e9 ⊢
          have s79 : Same H7 H9 := s8.trans s9
          refine ⟨_, rfl, _, rfl, p, _, _, .ref r2, rfl, rfl, SqL.of (s79 _ _ (s7 _ _ e6)), at_last _ _, r2, _, _, _, rfl, rfl, SqL.of (s79 _ _ (f7 (Ne.symm np_r2) g1)), at_1 _ _ _, _, _, rfl, rfl, (by show 2 ≤ sizeLine; decide), fun r9 hr9 => ?_⟩
          have ek : (((k + 1 : Nat) : Int) - 1) = (k : Nat) := by omega
          have s10 : Same H9 (upd H9 r9 (.lst [.ref l2, .int (((k + 1 : Nat) : Int) - 1)])) := same_new hr9
          have e10 : upd H9 r9 (.lst [.ref l2, .int (((k + 1 : Nat) : Int) - 1)]) r9 = some (.lst [.ref l2, .int (k : Nat)]) := by rw [upd_same, ek]
          generalize upd H9 r9 (.lst [.ref l2, .int (((k + 1 : Nat) : Int) - 1)]) = H10 at s10 e10 ⊢
          have s710 : Same H7 H10 := s79.trans s10
          refine ⟨_, rfl, _, rfl, p, _, _, _, rfl, rfl, s710 _ _ (s7 _ _ e6), ixN_last _ _, ?_⟩
          rw [set_last]
          have e11 : upd H10 p (.lst (rowsV rs ++ [V.ref r9])) p = some (.lst (rowsV rs ++ [V.ref r9])) := upd_same
          have b11 : But [p] H10 (upd H10 p (.lst (rowsV rs ++ [V.ref r9]))) := But.upd (by simp)
          generalize upd H10 p (.lst (rowsV rs ++ [V.ref r9])) = H11 at e11 b11 ⊢
          have bb : But [p] H5 H11 := b7.trans ((But.of s710).trans b11)
          have tk : Tk K H5 H11 := Tk.but bb nt
          have nl2 : l2 ≠ p := fun z => by rw [z, s8 _ _ (s7 _ _ e6)] at hl2; cases hl2
          have nr9 : r9 ≠ p := fun z => by rw [z, s79 _ _ (s7 _ _ e6)] at hr9; cases hr9
          have nq : q ≠ p := fun z => by rw [z, e6] at hq; cases hq
          have hmu2 := step_mu (o := o) (s := ⟨(ys, k) :: bl, xs, 0, sp⟩) sp5 e0
          refine ⟨⟨bl, ys ++ [.tup xs], k, sp⟩, (r9, l2) :: rs, _, _, _, _, _, rfl, ⟨wf_close u.wf, ?_, ?_, ?_, ?_, ?_, u.hp⟩, by have := hmu2.1; omega⟩
          · rw [← fin_step (s := ⟨(ys, k) :: bl, xs, 0, sp⟩) sp5 e0]
            exact u.fn
          · exact Same.but u.sm bb (by simpa using u.hp)
          · rw [rowsV_cons]; exact e11
          · refine .cons (b11 _ _ (by simpa using nr9) e10) (b11 _ _ (by simpa using nl2) (s10 _ _ e9)) ((g3.mono tk).app (.cons (.tup (SqT.of (b11 _ _ (by simpa using nq) (s710 _ _ e7))) (h3.mono tk)) .nil)) (g4.keep bb tk fun c hc hm => ?_)
            rw [List.mem_singleton.mp hm] at hc
            exact np_f hc
          · rw [flat_cons]
            simp only [List.mem_cons, not_or]
            exact ⟨Ne.symm nr9, Ne.symm nl2, np_f⟩
      · obtain ⟨m', rfl⟩ : ∃ m', mm = m' + 1 := by
          refine ⟨mm - 1, ?_⟩
          have : (mm : Int) ≠ 0 := vint_ne c2
          omega
        have bad : ∀ (k : Nat) (kk : Int) {H7 : Hp}, Same H5 H7 → step o ⟨bl, xs, m' + 1, sp⟩ = .inr (.bad k) → kk = (k : Nat) → ∀ t, H7 t = none → Q (.ref t) (upd H7 t (.tup [.bl false, .int kk])) := fun k kk {H7} s7 e ek =>
          retF k kk H7 (u.sm.trans s7) (by rw [← u.fn]; exact fin_end e) ek
        refine ⟨_, rfl, _, rfl, g, _, rfl, .inr hg5, _, _, rfl, rfl, _, rfl, ?_⟩
        rw [hlen]
        refine ite2 (fun c3 => ?_) (fun c3 => ?_)
        · have hl : o.length ≤ sp := by
            have : ((o.length : Nat) : Int) ≤ (sp : Nat) := of_decide_eq_true c3
            omega
          exact ⟨_, rfl, (by show 2 ≤ sizeLine; decide), bad sp _ (Same.refl _) (step_none (List.getElem?_eq_none hl)) rfl⟩
        · have hl : sp < o.length := by
            have : ¬ ((o.length : Nat) : Int) ≤ (sp : Nat) := fun z => c3 (decide_eq_true z)
            omega
          have g1 : o[sp]? = some o[sp] := by simp [hl]
          have ht0 := ho _ (List.getElem_mem hl)
          generalize o[sp] = tag at g1 ht0
          have eu : ((sp : Nat) : Int) + 1 = ((sp + 1 : Nat) : Int) := by omega
          refine ⟨_, rfl, _, rfl, g, _, _, .int tag, rfl, rfl, hg5, at_nat (by rw [List.getElem?_map, g1]; rfl), _, rfl, _, _, rfl, rfl, _, _, rfl, ?_⟩
          refine ⟨_, rfl, rfl, _, rfl, ?_⟩
          refine ite2 (fun c6 => ?_) (fun c6 => ?_)
          · obtain rfl := vint_eq c6
            refine ⟨_, rfl, _, rfl, g, o, sp + 1, congrArg (fun z => [V.ref g, V.int z]) eu, hg5, hl, ho, hz, fun t1 H6 s6 e6 => ?_⟩
            refine ⟨t1, _, rfl, SqT.of e6, rfl, _, _, rfl, _, _, rfl, rfl, ?_⟩
            have n0 := @num_nonneg o (sp + 1)
            have ns := @num_spot o (sp + 1) hl
            cases en : num o (sp + 1) with
            | mk rr k1 =>
            rw [en] at ns
            simp only at ns
            cases rr with
            | none =>
              refine ⟨_, rfl, rfl, _, rfl, ?_⟩
              exact ⟨_, rfl, (by show 2 ≤ sizeLine; decide), bad k1 _ s6 (step_row_bad g1 en) rfl⟩
            | some n =>
              have hn0 := n0 ho en
              refine ⟨_, rfl, rfl, _, rfl, ?_⟩
              refine ⟨_, rfl, _, rfl, g, _, rfl, .inr (Tk.same s6 _ _ hg5), _, _, rfl, rfl, _, rfl, ?_⟩
              rw [hlen]
              refine ite2 (fun c7 => ?_) (fun c7 => ?_)
              · exact ⟨_, rfl, (by show 2 ≤ sizeLine; decide), bad k1 _ s6 (step_row_big g1 en (of_decide_eq_true c7)) rfl⟩
              · have hn : ¬ (o.length : Int) < n := fun z => c7 (decide_eq_true z)
                have e0 := step_row (bl := bl) (xs := xs) (m := m') g1 en hn
                have hmu2 := step_mu (o := o) (s := ⟨bl, xs, m' + 1, sp⟩) sp5 e0
                refine ⟨_, rfl, .inl ⟨rfl, _, SqL.of (s6 _ _ pp)⟩, Nat.zero_le _, fun x9 hx9 => ?_⟩
                have s8 : Same H6 (upd H6 x9 (.lst [])) := same_new hx9
                have e8 : upd H6 x9 (.lst []) x9 = some (.lst []) := upd_same
                generalize upd H6 x9 (.lst []) = H8 at s8 e8 ⊢
                refine ⟨_, rfl, (by show 2 ≤ sizeLine; decide), fun r9 hr9 => ?_⟩
                have en2 : n = ((n.toNat : Nat) : Int) := (Int.toNat_of_nonneg hn0).symm
                have s9 : Same H8 (upd H8 r9 (.lst [.ref x9, numV (some n)])) := same_new hr9
                have e9 : upd H8 r9 (.lst [.ref x9, numV (some n)]) r9 = some (.lst [.ref x9, .int (n.toNat : Nat)]) := by rw [upd_same, ← en2]; rfl
                generalize upd H8 r9 (.lst [.ref x9, numV (some n)]) = H9 at s9 e9 ⊢
                have s69 : Same H5 H9 := s6.trans (s8.trans s9)
                refine ⟨p, _, .ref r9, rfl, rfl, s69 _ _ pp, by rw [len5, sizeLine_eq]; omega, ?_⟩
                have nt9 : NoT H9 [p] := noT_lst (s69 _ _ pp) noT_nil
                have b10 : But [p] H9 (upd H9 p (.lst (rowsV rs ++ [V.ref r] ++ [.ref r9]))) := But.upd (by simp)
                have e10 : upd H9 p (.lst (rowsV rs ++ [V.ref r] ++ [.ref r9])) p = some (.lst (rowsV rs ++ [V.ref r] ++ [.ref r9])) := upd_same
                generalize upd H9 p (.lst (rowsV rs ++ [V.ref r] ++ [.ref r9])) = H10 at b10 e10 ⊢
                have tk : Tk K H5 H10 := (Tk.same s69).trans (Tk.but b10 nt9)
                have bb : But [p] H5 H10 := (But.of s69).trans b10
                have nx9 : x9 ≠ p := fun z => by rw [z, s6 _ _ pp] at hx9; cases hx9
                have nr9 : r9 ≠ p := fun z => by rw [z, s8 _ _ (s6 _ _ pp)] at hr9; cases hr9
                refine ⟨⟨(xs, m') :: bl, [], n.toNat, k1⟩, (r9, x9) :: (r, x) :: rs, some (.int (0 + (i : Nat))), u4, some (.int 6), some (.int n), u7, rfl, ⟨wf_open u.wf (by omega) ns.2, ?_, ?_, ?_, ?_, ?_, u.hp⟩, by have := hmu2.1; omega⟩
                · rw [← fin_step (s := ⟨bl, xs, m' + 1, sp⟩) sp5 e0]
                  exact u.fn
                · exact Same.but (u.sm.trans s69) b10 (by simpa using u.hp)
                · rw [rowsV_cons, rowsV_cons]; exact e10
                · refine .cons (b10 _ _ (by simpa using nr9) e9) (b10 _ _ (by simpa using nx9) (s9 _ _ e8)) .nil ?_
                  refine .cons (bb _ _ (by simpa using Ne.symm np_r) h1) (bb _ _ (by simpa using Ne.symm np_x) h2) (h3.mono tk) (h4.keep bb tk fun c hc hm => ?_)
                  rw [List.mem_singleton.mp hm] at hc
                  exact np_f hc
                · rw [flat_cons, flat_cons]
                  simp only [List.mem_cons, not_or]
                  exact ⟨Ne.symm nr9, Ne.symm nx9, np_r, np_x, np_f⟩
          · have h6 : tag ≠ 6 := vint_ne c6
            refine ⟨_, rfl, _, rfl, _, rfl, g, o, tag, sp + 1, congrArg (fun z => [V.ref g, V.int tag, V.int z]) eu, hg5, hl, ho, hc, hz, ht0.1, fun t1 H6 u6 s6 e6 hu => ?_⟩
            refine ⟨t1, _, rfl, SqT.of e6, rfl, _, _, rfl, _, _, rfl, rfl, ?_⟩
            have ns := @part_spot o tag (sp + 1) hl
            cases en : part o tag (sp + 1) with
            | mk rr k1 =>
            rw [en] at ns hu
            simp only at ns
            cases rr with
            | none =>
              obtain rfl : u6 = .non := hu
              refine ⟨_, rfl, rfl, _, rfl, ?_⟩
              exact ⟨_, rfl, (by show 2 ≤ sizeLine; decide), bad k1 _ s6 (step_part_bad g1 h6 en) rfl⟩
            | some d =>
              obtain ⟨q0, v, rfl, hq0, hv⟩ := hu
              have e0 := step_part (bl := bl) (xs := xs) (m := m') g1 h6 en
              have hmu2 := step_mu (o := o) (s := ⟨bl, xs, m' + 1, sp⟩) sp5 e0
              refine ⟨_, rfl, rfl, _, rfl, ?_⟩
              refine ⟨_, rfl, _, rfl, p, _, _, .ref r, rfl, rfl, SqL.of (s6 _ _ pp), at_last _ _, r, _, _, .ref x, rfl, rfl, SqL.of (s6 _ _ h1), at_0 _ _, _, rfl, q0, _, _, v, rfl, rfl, hq0, at_0 _ _, (by show 1 ≤ sizeLine; decide), fun l1 hl1 => ?_⟩
              have s8 : Same H6 (upd H6 l1 (.lst [v])) := same_new hl1
              have e8 : upd H6 l1 (.lst [v]) l1 = some (.lst [v]) := upd_same
              generalize upd H6 l1 (.lst [v]) = H8 at s8 e8 ⊢
              refine ⟨x, l1, _, _, rfl, rfl, s8 _ _ (s6 _ _ h2), e8, ?_, fun l2 hl2 => ?_⟩
              · have e9 : ([v]).length = 1 := rfl
                rw [h3.len, sizeLine_eq, e9]
                omega
              have s9 : Same H8 (upd H8 l2 (.lst (vs ++ [v]))) := same_new hl2
              have e9 : upd H8 l2 (.lst (vs ++ [v])) l2 = some (.lst (vs ++ [v])) := upd_same
              generalize upd H8 l2 (.lst (vs ++ [v])) = H9 at s9 e9 ⊢
              have s59 : Same H5 H9 := s6.trans (s8.trans s9)
              refine ⟨_, rfl, _, rfl, p, _, _, .ref r, rfl, rfl, SqL.of (s59 _ _ pp), at_last _ _, r, _, _, _, rfl, rfl, SqL.of (s59 _ _ h1), at_1 _ _ _, _, _, rfl, rfl, (by show 2 ≤ sizeLine; decide), fun r9 hr9 => ?_⟩
              have ek : (((m' + 1 : Nat) : Int) - 1) = (m' : Nat) := by omega
              have s10 : Same H9 (upd H9 r9 (.lst [.ref l2, .int (((m' + 1 : Nat) : Int) - 1)])) := same_new hr9
              have e10 : upd H9 r9 (.lst [.ref l2, .int (((m' + 1 : Nat) : Int) - 1)]) r9 = some (.lst [.ref l2, .int (m' : Nat)]) := by rw [upd_same, ek]
              generalize upd H9 r9 (.lst [.ref l2, .int (((m' + 1 : Nat) : Int) - 1)]) = H10 at s10 e10 ⊢
              have s510 : Same H5 H10 := s59.trans s10
              refine ⟨_, rfl, _, rfl, p, _, _, _, rfl, rfl, s510 _ _ pp, ixN_last _ _, ?_⟩
              rw [set_last]
              have nt10 : NoT H10 [p] := noT_lst (s510 _ _ pp) noT_nil
              have e11 : upd H10 p (.lst (rowsV rs ++ [V.ref r9])) p = some (.lst (rowsV rs ++ [V.ref r9])) := upd_same
              have b11 : But [p] H10 (upd H10 p (.lst (rowsV rs ++ [V.ref r9]))) := But.upd (by simp)
              generalize upd H10 p (.lst (rowsV rs ++ [V.ref r9])) = H11 at e11 b11 ⊢
              have bb : But [p] H5 H11 := (But.of s510).trans b11
              have tk6 : Tk K H6 H11 := (Tk.same (s8.trans (s9.trans s10))).trans (Tk.but b11 nt10)
              have tk : Tk K H5 H11 := (Tk.same s6).trans tk6
              have nl2 : l2 ≠ p := fun z => by rw [z, s8 _ _ (s6 _ _ pp)] at hl2; cases hl2
              have nr9 : r9 ≠ p := fun z => by rw [z, s59 _ _ pp] at hr9; cases hr9
              refine ⟨⟨bl, xs ++ [d], m', k1⟩, (r9, l2) :: rs, _, _, _, _, _, rfl, ⟨wf_part u.wf (by omega) ns.2, ?_, ?_, ?_, ?_, ?_, u.hp⟩, by have := hmu2.1; omega⟩
              · rw [← fin_step (s := ⟨bl, xs, m' + 1, sp⟩) sp5 e0]
                exact u.fn
              · exact Same.but u.sm bb (by simpa using u.hp)
              · rw [rowsV_cons]; exact e11
              · refine .cons (b11 _ _ (by simpa using nr9) e10) (b11 _ _ (by simpa using nl2) (s10 _ _ e9)) ((h3.mono tk).app (.cons (hv.mono tk6) .nil)) (h4.keep bb tk fun c hc hm => ?_)
                rw [List.mem_singleton.mp hm] at hc
                exact np_f hc
              · rw [flat_cons]
                simp only [List.mem_cons, not_or]
                exact ⟨Ne.symm nr9, Ne.symm nl2, np_f⟩
    · rintro σ H5 ⟨s, rs, u3, u4, u5, u6, u7, rfl, u, hmu⟩
      omega
end
end K77
end

section
set_option Elab.async false
set_option linter.all false
set_option maxRecDepth 100000
set_option maxHeartbeats 4000000
namespace K77
open PySem L2
section
variable {P : Program} {w : World} {K : PySem.W.Frag} {mg : Str → Option Value} {base : Heap}
theorem ok_told (T : Tx P K mg) (G_unpacked : FnOk P w K mg base (CX P w) 4 T.unpacked.f T.unpacked.fd ["octets"] (spUnpacked K T.CBadOctets)) :
    FnOk P w K mg base CX0 5 T._law_told_of_octets.f T._law_told_of_octets.fd ["octets"] (spRead K) := by
  refine T._law_told_of_octets.F.ok sc__law_told_of_octets (fun vs H Q E h => ?_) (fun cdv A outer s H vs Q E hr h => ?_)
  · obtain ⟨g, o, rfl, _⟩ := h
    rfl
  · obtain ⟨g, o, rfl, hg, ho, hc, hz, q⟩ := h
    refine ⟨_, (pss_one (ps_try_as (i := 1) (tb := _) (ts := _) (Wout := fun _ _ _ _ => False) rfl rfl sc__law_told_of_octets.nd rfl rfl ⟨rfl, by decide, Or.inl T.BadOctets.gC⟩ takes0 (fun W pn xe tk _ => (pss_one (ps_ret (pe_tup (pa_cons pe_bl (pa_cons (pe_callS G_unpacked (hr.mono (by decide)) rfl T.unpacked.m T.unpacked.F.kp T.unpacked.b (fun σ => passAt tk σ) (pa_cons (pv 0) pa_nil)) pa_nil)))))) (fun a oe cls d pn hz hf => (pss_one (ps_ret (pe_tup (pa_cons pe_bl (pa_cons (pe_byOwn T.BadOctets hz hf (pv 1)) pa_nil)))))))), ?_⟩
    refine ⟨_, rfl, g, o, rfl, hg, ho, hc, hz, fun d e v H1 s1 hv => ?_, fun k e d H1 s1 hd => ?_⟩
    · refine ⟨(by show 2 ≤ sizeLine; decide), fun t ht => ?_⟩
      refine q _ _ (s1.trans (same_new ht)) ?_
      rw [e]
      exact .tup (SqT.of upd_same) (.cons (.bl true) (.cons (hv.mono (Tk.same (same_new ht))) .nil))
    · refine ⟨true, T.BadOctets.te, fun _ a ha => ?_, fun z => nomatch z⟩
      refine ⟨_, rfl, rfl, rfl, d, _, rfl, hd, (by show 2 ≤ sizeLine; decide), fun t ht => ?_⟩
      refine q _ _ (s1.trans (same_new ht)) ?_
      rw [e]
      exact .tup (SqT.of upd_same) (.cons (.bl false) (.cons (.int _) .nil))
end
end K77
end

section
set_option Elab.async false
set_option linter.all false
set_option maxRecDepth 100000
set_option maxHeartbeats 4000000
namespace K77
open PySem L2
theorem idx_all : (sigs.all fun c => decide ((Builtin.Str.occurrences sigS ⟨#[c]⟩ 0 sigS.length 1).head? = some (idx c))) = true := by decide +kernel
theorem idx_occ {c : Nat} (h : c ∈ sigs) : ∃ rest, Builtin.Str.occurrences sigS ⟨#[c]⟩ 0 sigS.length 1 = idx c :: rest := by
  have q := of_decide_eq_true (List.all_eq_true.mp idx_all c h)
  cases e : Builtin.Str.occurrences sigS ⟨#[c]⟩ 0 sigS.length 1 with
  | nil => rw [e] at q; cases q
  | cons i r => rw [e] at q; injection q with q; exact ⟨r, by rw [q]⟩
mutual
/-- how many parts -/
def sz : D → Nat
  | .tup xs => 1 + szL xs
  | _ => 1
def szL : List D → Nat
  | [] => 0
  | x :: xs => sz x + szL xs
end
theorem sz_pos : ∀ d : D, 1 ≤ sz d
  | .non => by simp [sz]
  | .bl _ => by simp [sz]
  | .int _ => by simp [sz]
  | .str _ => by simp [sz]
  | .tup _ => by simp [sz]
theorem szL_app : ∀ (a b : List D), szL (a ++ b) = szL a + szL b
  | [], b => by simp [szL]
  | x :: a, b => by
    have h := szL_app a b
    simp only [List.cons_append, szL, h]
    omega
theorem octsL_app : ∀ (a b : List D), octsL (a ++ b) = octsL a ++ octsL b
  | [], b => by simp [octsL]
  | x :: a, b => by
    have h := octsL_app a b
    simp only [List.cons_append, octsL, h, List.append_assoc]
theorem goodL_app : ∀ {a b : List D}, GoodL a → GoodL b → GoodL (a ++ b)
  | [], b, _, h => h
  | x :: a, b, h, h' => ⟨h.1, goodL_app h.2 h'⟩
section
variable {P : Program} {w : World} {K : PySem.W.Frag} {mg : Str → Option Value} {base : Heap}
theorem for_str {z : Str} {g : TG} {tb : TS} {D : Ends} {σ : St} {H : Hp} (Pv : Nat → St → Hp → Prop) (h0 : Pv 0 σ H)
    (hs : ∀ i c σ H, z.cps.toList[i]? = some c → Pv i σ H → g (.str ⟨#[c]⟩) σ H fun σ2 H2 => tb { D with nx := Pv (i + 1), ct := Pv (i + 1), bk := D.nx } σ2 H2) (hd : ∀ σ H, Pv z.cps.toList.length σ H → D.nx σ H) :
    ∃ W : Nat → Nat → St → Hp → Prop, (∃ m, W 0 m σ H) ∧ ∀ i m σ H, W i m σ H → ((Its z).stop i H ∧ D.nx σ H) ∨
      ((Its z).go i H ∧ ∃ N : St → Hp → Prop, (∀ σ' H', N σ' H' → ∃ m', m' < m ∧ W (i + 1) m' σ' H') ∧ ∀ x H', (Its z).yld i H x H' → g x σ H' fun σ2 H2 => tb { D with nx := N, ct := N, bk := D.nx } σ2 H2) := by
  have hz : z.cps.toList.length = z.cps.size := Array.length_toList
  refine ⟨fun i m σ H => m = z.cps.size - i ∧ i ≤ z.cps.size ∧ Pv i σ H, ⟨z.cps.size, by simp, Nat.zero_le _, h0⟩, ?_⟩
  rintro i m σ H ⟨rfl, hi, p⟩
  by_cases hlt : i < z.cps.size
  · refine .inr ⟨hlt, Pv (i + 1), fun σ' H' p' => ⟨z.cps.size - (i + 1), by omega, rfl, hlt, p'⟩, fun v H' y => ?_⟩
    obtain ⟨rfl, c, hc, rfl⟩ := y
    exact hs i c σ H' (by rw [Array.getElem?_toList]; exact hc) p
  · obtain rfl : i = z.cps.size := by omega
    exact .inl ⟨Nat.le_refl _, hd σ H (by rw [hz]; exact p)⟩
theorem ext1 {H4 H6 : Hp} {a1 p7 f : Addr} {k : Int} {zs ys : List V} (ha1 : H4 a1 = none) (s6 : Same (upd H4 a1 (.lst [.int k])) H6) (hp7 : H6 p7 = none) (hf : H4 f = some (.lst ys)) : upd H6 p7 (.lst zs) f = some (.lst ys) :=
  same_new hp7 _ _ (s6 _ _ (same_new ha1 _ _ hf))
theorem ext2 {H4 H6 : Hp} {a1 p7 f : Addr} {k : Int} {zs : List V} {o : HO} (ha1 : H4 a1 = none) (s6 : Same (upd H4 a1 (.lst [.int k])) H6) (hp7 : H6 p7 = none) : But [f] H4 (upd (upd H6 p7 (.lst zs)) f o) :=
  (But.of ((same_new ha1).trans (s6.trans (same_new hp7)))).trans (But.upd (by simp))
/-! ### packed -/
def spPacked (K : PySem.W.Frag) : Sp := fun vs H Q _ => ∃ (v : V) (d : D), vs = [v] ∧ Im K H v d ∧ Good d ∧ (octs d).length ≤ 1000000 ∧ ∀ q H', Same H H' → SqT K H' q ((octs d).map V.int) → Q (.ref q) H'
theorem ok_packed (T : Tx P K mg) (G_is_int : FnOk P w K mg base CX0 1 T.is_int.f T.is_int.fd ["value"] (spIsInt K))
    (G_counted : FnOk P w K mg base CX0 1 T.counted.f T.counted.fd ["number"] spCounted) :
    FnOk P w K mg base CX0 2 T.packed.f T.packed.fd ["value"] (spPacked K) := by
  refine T.packed.F.ok sc_packed (fun vs H Q E h => ?_) (fun cdv A outer s H vs Q E hr h => ?_)
  · obtain ⟨v, d, rfl, _⟩ := h
    rfl
  · obtain ⟨v, d, rfl, hv, gd, hz, q⟩ := h
    refine ⟨_, (pss_cons (ps_par (i := 1) (j := 2) rfl sc_packed.nd rfl rfl (by decide) rfl rfl (pa_cons (pe_lst pa_nil) (pa_cons (pe_lst (pa_cons (pv 0) pa_nil)) pa_nil)) (by rfl))
      (pss_cons (ps_while PassesOwn.never (pt_cmpR op_gt (pe_callB call_len_seq (by rfl) T.n_len PySem.boot_len (pa_cons (pv 2) pa_nil)) pe_int (nomark _)) (pss_cons (ps_set (i := 3) sc_packed.nd rfl (by first | exact Or.inl rfl | exact Or.inr rfl) (pe_bm0 PySem.F.plainAttrs_list PySem.F.slot_list_pop PySem.F.type_list_pop mt_pop (pv 2)))
      (pss_one (ps_if (pt_cmpR op_isN (pv 3) pe_non (nomark _)) (pss_one (ps_expr (pe_bm PySem.F.plainAttrs_list PySem.F.slot_list_append PySem.F.type_list_append mt_append (pv 1) (pa_cons (C8.pe_gc rfl T.c_NONE) pa_nil)))) (pss_one (ps_if (PW.pt (pw_or (pt_cmpR op_isTo (pv 3) pe_bl (nomark _)) (pw_or1 (pt_cmpR op_isTo (pv 3) pe_bl (nomark _))))) (pss_one (ps_expr (pe_bm PySem.F.plainAttrs_list PySem.F.slot_list_append PySem.F.type_list_append mt_append (pv 1) (pa_cons (pe_ifExp (pt_val (pv 3)) (C8.pe_gc rfl T.c_YES) (C8.pe_gc rfl T.c_NO)) pa_nil)))) (pss_one (ps_if (pt_val (pe_call G_is_int (hr.mono (by decide)) rfl T.is_int.m T.is_int.F.kp T.is_int.b .nil pass0 (pa_cons (pv 3) pa_nil))) (pss_one (ps_expr (pe_bm PySem.F.plainAttrs_list PySem.F.slot_list_extend PySem.F.type_list_extend mt_extend (pv 1) (pa_cons (pe_op op_cat (pe_lst (pa_cons (pe_ifExp (pt_cmpR op_ge (pv 3) pe_int (nomark _)) (C8.pe_gc rfl T.c_UP) (C8.pe_gc rfl T.c_DOWN)) pa_nil)) (pe_call G_counted (hr.mono (by decide)) rfl T.counted.m T.counted.F.kp T.counted.b .nil pass0 (pa_cons (pe_callB call_abs (by rfl) T.n_abs PyProof.Rows.boot_abs (pa_cons (pv 3) pa_nil)) pa_nil))) pa_nil)))) (pss_one (ps_if (pt_val (pe_callB call_isi (by rfl) T.n_isinstance PyProof.Rows.boot_isinstance (pa_cons (pv 3) (pa_cons (pe_bltn (v := .ty "str") rfl T.n_str PyProof.Rows.boot_str rfl) pa_nil)))) (pss_cons (ps_expr (pe_bm PySem.F.plainAttrs_list PySem.F.slot_list_extend PySem.F.type_list_extend mt_extend (pv 1) (pa_cons (pe_op op_cat (pe_lst (pa_cons (C8.pe_gc rfl T.c_TEXT) pa_nil)) (pe_call G_counted (hr.mono (by decide)) rfl T.counted.m T.counted.F.kp T.counted.b .nil pass0 (pa_cons (pe_callB (CallR.or call_len_seq call_len_str) (by rfl) T.n_len PySem.boot_len (pa_cons (pv 3) pa_nil)) pa_nil))) pa_nil)))
      (pss_one (ps_for PassesOwn.never rfl (pi_str (pv 3)) (pg_name (i := 4) sc_packed.nd rfl (by first | exact Or.inl rfl | exact Or.inr rfl)) (pss_one (ps_expr (pe_bm PySem.F.plainAttrs_list PySem.F.slot_list_append PySem.F.type_list_append mt_append (pv 1) (pa_cons (pe_m1 PySem.F.slot_str_index PySem.F.type_str_index mt_sindex (C8.pe_gc rfl T.c_SIGNS) (pv 4)) pa_nil))))))) (pss_cons (ps_expr (pe_bm PySem.F.plainAttrs_list PySem.F.slot_list_extend PySem.F.type_list_extend mt_extend (pv 1) (pa_cons (pe_op op_cat (pe_lst (pa_cons (C8.pe_gc rfl T.c_ROW) pa_nil)) (pe_call G_counted (hr.mono (by decide)) rfl T.counted.m T.counted.F.kp T.counted.b .nil pass0 (pa_cons (pe_callB (CallR.or call_len_seq call_len_str) (by rfl) T.n_len PySem.boot_len (pa_cons (pv 3) pa_nil)) pa_nil))) pa_nil)))
      (pss_one (ps_expr (pe_bm PySem.F.plainAttrs_list PySem.F.slot_list_extend PySem.F.type_list_extend mt_extend (pv 2) (pa_cons (pe_revL (pe_callTy call_list_of (by rfl) T.n_list PyProof.Rows.boot_list (pa_cons (pv 3) pa_nil))) pa_nil)))))))))))))))
      (pss_one (ps_ret (pe_tupleOf rfl T.n_tuple (pv 1)))))), ?_⟩
    refine ⟨Nat.zero_le _, fun f hf => ?_⟩
    have s1 : Same H (upd H f (.lst [])) := same_new hf
    have e1 : upd H f (.lst []) f = some (.lst []) := upd_same
    generalize upd H f (.lst []) = H1 at s1 e1 ⊢
    refine ⟨_, rfl, (by show 1 ≤ sizeLine; decide), fun l hl => ?_⟩
    have s2 : Same H1 (upd H1 l (.lst [v])) := same_new hl
    have e2 : upd H1 l (.lst [v]) l = some (.lst [v]) := upd_same
    have nfl : f ≠ l := fun z => by rw [← z, e1] at hl; cases hl
    have hlH : H l = none := s1.free hl
    generalize upd H1 l (.lst [v]) = H2 at s2 e2 ⊢
    refine ⟨_, _, rfl, ?_⟩
    refine ⟨fun m σ H' => ∃ (acc : List Int) (vs : List V) (ds : List D) (u3 u4 : Option V), m = szL ds ∧ σ = [some v, some (.ref f), some (.ref l), u3, u4] ∧ Same H H' ∧ H' f = some (.lst (acc.map V.int)) ∧ H' l = some (.lst vs.reverse) ∧ ImL K H' vs ds ∧ acc ++ octsL ds = octs d ∧ GoodL ds,
      ⟨_, [], [v], [d], none, none, rfl, rfl, s1.trans s2, s2 _ _ e1, e2, .cons (hv.mono (Tk.same (s1.trans s2))) .nil, by simp [octsL], gd, trivial⟩, ?_⟩
    rintro m σ H3 ⟨acc, vs, ds, u3, u4, rfl, rfl, s3, f3, l3, i3, ea, gg⟩
    have hll : acc.length + (octsL ds).length ≤ 1000000 := by
      have := congrArg List.length ea
      rw [List.length_append] at this
      omega
    have hdl := octsL_pos ds
    refine ⟨_, rfl, l, _, rfl, .inl (SqL.of l3), _, _, rfl, rfl, _, rfl, ?_⟩
    refine ite2 (fun c => ?_) (fun c => ?_)
    · cases i3 with
      | nil => exact absurd (of_decide_eq_true c) (by decide)
      | @cons v1 vs d1 ds hv1 hvs =>
      refine ⟨fun σ' H' => ∃ (acc : List Int) (vs' : List V) (ds' : List D) (u3 u4 : Option V), szL ds' < szL (d1 :: ds) ∧ σ' = [some v, some (.ref f), some (.ref l), u3, u4] ∧ Same H H' ∧ H' f = some (.lst (acc.map V.int)) ∧ H' l = some (.lst vs'.reverse) ∧ ImL K H' vs' ds' ∧ acc ++ octsL ds' = octs d ∧ GoodL ds', ?_, ?_⟩
      · rintro σ' H' ⟨acc', vs', ds', u3', u4', hm, rfl, r⟩
        exact ⟨_, hm, acc', vs', ds', u3', u4', rfl, rfl, r⟩
      · rw [List.reverse_cons] at l3
        refine ⟨_, rfl, .inl ⟨rfl, _, SqL.of l3⟩, l, _, v1, rfl, rfl, l3, by simp, ?_⟩
        rw [List.dropLast_concat]
        have b4 : But [f, l] H3 (upd H3 l (.lst vs.reverse)) := But.upd (by simp)
        have e4 : upd H3 l (.lst vs.reverse) l = some (.lst vs.reverse) := upd_same
        have f4 : upd H3 l (.lst vs.reverse) f = some (.lst (acc.map V.int)) := (upd_ne nfl).trans f3
        have nt3 : NoT H3 [f, l] := noT_lst f3 (noT_lst l3 noT_nil)
        generalize upd H3 l (.lst vs.reverse) = H4 at b4 e4 f4 ⊢
        have s4 : Same H H4 := Same.but s3 b4 (by simpa using ⟨hf, hlH⟩)
        have hv4 : Im K H4 v1 d1 := hv1.mono (Tk.but b4 nt3)
        have hvs4 : ImL K H4 vs ds := hvs.mono (Tk.but b4 nt3)
        have hdl1 := octs_pos d1
        simp only [octsL, List.length_append] at hll
        -- one more octet, then this value is told
        have app1 : ∀ (k : Int), octs d1 = [k] → (∀ (H5 : Hp), H5 = upd H4 f (.lst (acc.map V.int ++ [.int k])) → ∃ (acc : List Int) (vs' : List V) (ds' : List D) (u3' u4' : Option V), szL ds' < szL (d1 :: ds) ∧ ([some v, some (.ref f), some (.ref l), some v1, u4] : St) = [some v, some (.ref f), some (.ref l), u3', u4'] ∧ Same H H5 ∧ H5 f = some (.lst (acc.map V.int)) ∧ H5 l = some (.lst vs'.reverse) ∧ ImL K H5 vs' ds' ∧ acc ++ octsL ds' = octs d ∧ GoodL ds') := fun k ek H5 e5 => by
          have b5 : But [f] H4 H5 := by rw [e5]; exact But.upd (by simp)
          have nt4 : NoT H4 [f] := noT_lst f4 noT_nil
          refine ⟨acc ++ [k], vs, ds, _, _, ?_, rfl, Same.but s4 b5 (by simpa using hf), by rw [e5, upd_same, List.map_append]; rfl, b5 _ _ (by simpa using Ne.symm nfl) e4, hvs4.mono (Tk.but b5 nt4), ?_, gg.2⟩
          · have := sz_pos d1
            simp only [szL]
            omega
          · rw [← ea]
            simp only [octsL, ek, List.append_assoc]
        cases hv4 with
        | non =>
          refine ⟨_, rfl, rfl, _, rfl, iteT ?_⟩
          refine ⟨_, rfl, .inl ⟨rfl, _, SqL.of f4⟩, f, _, _, rfl, rfl, f4, by rw [List.length_map, sizeLine_eq]; omega, ?_⟩
          exact app1 0 rfl _ rfl
        | bl b =>
          refine ⟨_, rfl, rfl, _, rfl, iteF ?_⟩
          cases b with
          | true =>
            refine ⟨_, rfl, true, rfl, _, rfl, iteT (iteT ?_)⟩
            refine ⟨_, rfl, .inl ⟨rfl, _, SqL.of f4⟩, _, rfl, _, rfl, iteT ⟨f, _, _, rfl, rfl, f4, by rw [List.length_map, sizeLine_eq]; omega, ?_⟩⟩
            exact app1 2 rfl _ rfl
          | false =>
            refine ⟨_, rfl, true, rfl, _, rfl, iteF ⟨_, rfl, false, rfl, _, rfl, iteT ?_⟩⟩
            refine ⟨_, rfl, .inl ⟨rfl, _, SqL.of f4⟩, _, rfl, _, rfl, iteF ⟨f, _, _, rfl, rfl, f4, by rw [List.length_map, sizeLine_eq]; omega, ?_⟩⟩
            exact app1 1 rfl _ rfl
        | int i =>
          refine ⟨_, rfl, rfl, _, rfl, iteF ?_⟩
          refine ⟨_, rfl, true, rfl, _, rfl, iteF ⟨_, rfl, false, rfl, _, rfl, iteF ?_⟩⟩
          refine ⟨_, rfl, _, _, rfl, .int i, _, rfl, iteT ?_⟩
          refine ⟨_, rfl, .inl ⟨rfl, _, SqL.of f4⟩, _, rfl, _, _, rfl, rfl, _, rfl, ?_⟩
          have hn : i.natAbs < 128 ^ 9 := Nat.lt_trans gg.1 (by decide)
          have hni : (if i < 0 then -i else i) = (i.natAbs : Int) := by
            by_cases z : i < 0
            · rw [if_pos z]; omega
            · rw [if_neg z]; omega
          have e8 : (octs (.int i)).length = 1 + (sev i.natAbs).length := by
            simp only [octs, List.length_cons]
            omega
          have fin3 : ∀ k : Int, octs (.int i) = k :: sev i.natAbs → ∀ H5, But [f] H4 H5 → H5 f = some (.lst (acc.map V.int ++ ([V.int k] ++ (sev i.natAbs).map V.int))) → ∃ (acc : List Int) (vs' : List V) (ds' : List D) (u3' u4' : Option V), szL ds' < szL (.int i :: ds) ∧ ([some v, some (.ref f), some (.ref l), some (.int i), u4] : St) = [some v, some (.ref f), some (.ref l), u3', u4'] ∧ Same H H5 ∧ H5 f = some (.lst (acc.map V.int)) ∧ H5 l = some (.lst vs'.reverse) ∧ ImL K H5 vs' ds' ∧ acc ++ octsL ds' = octs d ∧ GoodL ds' := fun k ek H5 b5 e5 => by
            have nt4 : NoT H4 [f] := noT_lst f4 noT_nil
            refine ⟨acc ++ (k :: sev i.natAbs), vs, ds, _, _, ?_, rfl, Same.but s4 b5 (by simpa using hf), by rw [e5, List.map_append]; rfl, b5 _ _ (by simpa using Ne.symm nfl) e4, hvs4.mono (Tk.but b5 nt4), ?_, gg.2⟩
            · simp only [szL, sz]
              omega
            · rw [← ea]
              simp only [octsL, ek, List.append_assoc]
          rw [e8] at hll
          refine ite2 (fun c0 => ?_) (fun c0 => ?_)
          · have h0 : 0 ≤ i := of_decide_eq_true c0
            refine ⟨(by show 1 ≤ sizeLine; decide), fun a1 ha1 => ⟨_, rfl, i, rfl, i.natAbs, by rw [hni]; rfl, hn, fun p6 H6 h6 s6 e6 => ⟨a1, p6, _, _, rfl, rfl, s6 _ _ upd_same, e6, by rw [List.length_map, sizeLine_eq]; simp; omega, fun p7 hp7 => ⟨f, p7, _, _, rfl, rfl, ext1 ha1 s6 hp7 f4, upd_same, by rw [List.length_append, List.length_map, List.length_map, sizeLine_eq]; simp; omega, ?_⟩⟩⟩⟩
            exact fin3 3 (by simp only [octs, if_pos h0]) _ (ext2 ha1 s6 hp7) upd_same
          · have h0 : ¬ 0 ≤ i := fun z => c0 (decide_eq_true z)
            refine ⟨(by show 1 ≤ sizeLine; decide), fun a1 ha1 => ⟨_, rfl, i, rfl, i.natAbs, by rw [hni]; rfl, hn, fun p6 H6 h6 s6 e6 => ⟨a1, p6, _, _, rfl, rfl, s6 _ _ upd_same, e6, by rw [List.length_map, sizeLine_eq]; simp; omega, fun p7 hp7 => ⟨f, p7, _, _, rfl, rfl, ext1 ha1 s6 hp7 f4, upd_same, by rw [List.length_append, List.length_map, List.length_map, sizeLine_eq]; simp; omega, ?_⟩⟩⟩⟩
            exact fin3 4 (by simp only [octs, if_neg h0]) _ (ext2 ha1 s6 hp7) upd_same
        | str z =>
          refine ⟨_, rfl, rfl, _, rfl, iteF ?_⟩
          refine ⟨_, rfl, true, rfl, _, rfl, iteF ⟨_, rfl, false, rfl, _, rfl, iteF ?_⟩⟩
          refine ⟨_, rfl, _, _, rfl, .str z, _, rfl, iteF ?_⟩
          refine ⟨_, rfl, ?_⟩
          simp only [tCons, tC, tNil]
          refine isi_of (.str z) (kit_str _) ⟨_, rfl, iteT ?_⟩
          have hzs : z.cps.toList.length = z.cps.size := Array.length_toList
          have hn : z.cps.toList.length < 128 ^ 9 := by rw [hzs]; exact Nat.lt_trans gg.1.1 (by decide)
          have e8 : (octs (.str z)).length = 1 + (sev z.cps.toList.length).length + z.cps.toList.length := by
            simp only [octs, List.length_cons, List.length_append, List.length_map]
            omega
          rw [e8] at hll
          refine ⟨_, rfl, .inl ⟨rfl, _, SqL.of f4⟩, (by show 1 ≤ sizeLine; decide), fun a1 ha1 => ⟨_, rfl, .inr ⟨z, rfl, (by show z.cps.size ≤ sizeLine; have := gg.1.1; rw [sizeLine_eq]; omega), z.cps.toList.length, (by rw [hzs]; rfl), hn, fun p6 H6 h6 s6 e6 => ⟨a1, p6, _, _, rfl, rfl, s6 _ _ upd_same, e6, by rw [List.length_map, sizeLine_eq]; show 1 + _ ≤ _; omega, fun p7 hp7 => ⟨f, p7, _, _, rfl, rfl, ext1 ha1 s6 hp7 f4, upd_same, by rw [List.length_append, List.length_map, List.length_map, sizeLine_eq]; show acc.length + (1 + _) ≤ _; omega, ?_⟩⟩⟩⟩⟩
          have b7 := ext2 (zs := [V.int 5] ++ (sev z.cps.toList.length).map V.int) (o := .lst (acc.map V.int ++ ([V.int 5] ++ (sev z.cps.toList.length).map V.int))) (f := f) ha1 s6 hp7
          have e7 : upd (upd H6 p7 (.lst ([V.int 5] ++ (sev z.cps.toList.length).map V.int))) f (.lst (acc.map V.int ++ ([V.int 5] ++ (sev z.cps.toList.length).map V.int))) f = some (.lst ((acc ++ 5 :: sev z.cps.toList.length).map V.int)) := by
            rw [upd_same, List.map_append]; rfl
          generalize upd (upd H6 p7 (.lst ([V.int 5] ++ (sev z.cps.toList.length).map V.int))) f (.lst (acc.map V.int ++ ([V.int 5] ++ (sev z.cps.toList.length).map V.int))) = H7 at b7 e7 ⊢
          refine ⟨_, rfl, z, rfl, for_str (fun i σ H' => ∃ (u : Option V), σ = [some v, some (.ref f), some (.ref l), some (.str z), u] ∧ But [f] H4 H' ∧ H' f = some (.lst ((acc ++ 5 :: sev z.cps.toList.length ++ (z.cps.toList.take i).map fun c => ((idx c : Nat) : Int)).map V.int))) ⟨u4, rfl, b7, by rw [List.take_zero, List.map_nil, List.append_nil]; exact e7⟩ ?_ ?_⟩
          · rintro i c σ H8 hc ⟨u, rfl, b8, e8'⟩
            have hcs := gg.1.2 c (List.mem_of_getElem? hc)
            obtain ⟨rest, hocc⟩ := idx_occ hcs
            have hi := (List.getElem?_eq_some_iff.mp hc).1
            refine ⟨_, rfl, .inl ⟨rfl, _, SqL.of e8'⟩, ⟨_, rfl⟩, _, rfl, _, _, _, rest, rfl, rfl, hocc, f, _, _, rfl, rfl, e8', ?_, ?_⟩
            · rw [List.length_map, List.length_append, List.length_append, List.length_map, List.length_take, List.length_cons, sizeLine_eq]
              omega
            · refine ⟨_, rfl, b8.trans (But.upd (by simp)), ?_⟩
              rw [upd_same, take_snoc hc]
              simp only [List.map_append, List.map_cons, List.map_nil, List.append_assoc]
          · rintro σ H8 ⟨u, rfl, b8, e8'⟩
            have nt4 : NoT H4 [f] := noT_lst f4 noT_nil
            rw [List.take_length] at e8'
            refine ⟨_, vs, ds, _, _, ?_, rfl, Same.but s4 b8 (by simpa using hf), e8', b8 _ _ (by simpa using Ne.symm nfl) e4, hvs4.mono (Tk.but b8 nt4), ?_, gg.2⟩
            · simp only [szL, sz]
              omega
            · rw [← ea]
              simp only [octsL, octs, List.append_assoc, List.cons_append]
        | @tup a xs es hs hl =>
          have hte : ImL K H4 xs es := hl
          refine ⟨_, rfl, rfl, _, rfl, iteF ?_⟩
          refine ⟨_, rfl, true, rfl, _, rfl, iteF ⟨_, rfl, false, rfl, _, rfl, iteF ?_⟩⟩
          refine ⟨_, rfl, _, _, rfl, .tup hs hl, _, rfl, iteF ?_⟩
          refine ⟨_, rfl, ?_⟩
          simp only [tCons, tC, tNil]
          refine isi_of (.tup hs hl) (kit_str _) ⟨_, rfl, iteF ?_⟩
          have hxl := hl.len
          have hn : es.length < 128 ^ 9 := Nat.lt_trans gg.1.1 (by decide)
          have e8 : (octs (.tup es)).length = 1 + (sev es.length).length + (octsL es).length := by
            simp only [octs, List.length_cons, List.length_append]
            omega
          rw [e8] at hll
          refine ⟨_, rfl, .inl ⟨rfl, _, SqL.of f4⟩, (by show 1 ≤ sizeLine; decide), fun a1 ha1 => ⟨_, rfl, .inl ⟨a, xs, rfl, .inr (Tk.same (same_new ha1) _ _ hs), es.length, (by rw [hxl]; rfl), hn, fun p6 H6 h6 s6 e6 => ⟨a1, p6, _, _, rfl, rfl, s6 _ _ upd_same, e6, by rw [List.length_map, sizeLine_eq]; show 1 + _ ≤ _; omega, fun p7 hp7 => ⟨f, p7, _, _, rfl, rfl, ext1 ha1 s6 hp7 f4, upd_same, by rw [List.length_append, List.length_map, List.length_map, sizeLine_eq]; show acc.length + (1 + _) ≤ _; omega, ?_⟩⟩⟩⟩⟩
          have b7 := ext2 (zs := [V.int 6] ++ (sev es.length).map V.int) (o := .lst (acc.map V.int ++ ([V.int 6] ++ (sev es.length).map V.int))) (f := f) ha1 s6 hp7
          have e7 : upd (upd H6 p7 (.lst ([V.int 6] ++ (sev es.length).map V.int))) f (.lst (acc.map V.int ++ ([V.int 6] ++ (sev es.length).map V.int))) f = some (.lst ((acc ++ 6 :: sev es.length).map V.int)) := by
            rw [upd_same, List.map_append]; rfl
          generalize upd (upd H6 p7 (.lst ([V.int 6] ++ (sev es.length).map V.int))) f (.lst (acc.map V.int ++ ([V.int 6] ++ (sev es.length).map V.int))) = H7 at b7 e7 ⊢
          have nt4 : NoT H4 [f] := noT_lst f4 noT_nil
          have l7 : H7 l = some (.lst vs.reverse) := b7 _ _ (by simpa using Ne.symm nfl) e4
          have hs7 : SqT K H7 a xs := Tk.but b7 nt4 _ _ hs
          refine ⟨_, rfl, .inl ⟨rfl, _, SqL.of l7⟩, _, rfl, a, xs, rfl, .inr hs7, fun l8 hl8 => ?_⟩
          have s8 : Same H7 (upd H7 l8 (.lst xs)) := same_new hl8
          have e8b : upd H7 l8 (.lst xs) l8 = some (.lst xs) := upd_same
          generalize upd H7 l8 (.lst xs) = H8 at s8 e8b ⊢
          refine ⟨l8, xs, rfl, SqL.of e8b, fun l9 hl9 => ?_⟩
          have s9 : Same H8 (upd H8 l9 (.lst xs.reverse)) := same_new hl9
          have e9 : upd H8 l9 (.lst xs.reverse) l9 = some (.lst xs.reverse) := upd_same
          generalize upd H8 l9 (.lst xs.reverse) = H9 at s9 e9 ⊢
          have s79 := s8.trans s9
          have hvl := hvs.len
          have hol := octsL_pos es
          have hod := octsL_pos ds
          refine ⟨l, l9, _, _, rfl, rfl, s79 _ _ l7, e9, by rw [List.length_reverse, List.length_reverse, hvl, hxl, sizeLine_eq]; omega, ?_⟩
          have b10 : But [f, l] H9 (upd H9 l (.lst (vs.reverse ++ xs.reverse))) := But.upd (by simp)
          have e10 : upd H9 l (.lst (vs.reverse ++ xs.reverse)) l = some (.lst (xs ++ vs).reverse) := by rw [upd_same, List.reverse_append]
          have f10 : upd H9 l (.lst (vs.reverse ++ xs.reverse)) f = some (.lst ((acc ++ 6 :: sev es.length).map V.int)) := (upd_ne nfl).trans (s79 _ _ e7)
          generalize upd H9 l (.lst (vs.reverse ++ xs.reverse)) = H10 at b10 e10 f10 ⊢
          have nt : NoT H4 [f, l] := noT_lst f4 (noT_lst e4 noT_nil)
          have bb : But [f, l] H4 H10 := (b7.mono (by simp)).trans ((But.of s79).trans b10)
          refine ⟨acc ++ 6 :: sev es.length, xs ++ vs, es ++ ds, _, _, ?_, rfl, Same.but s4 bb (by simpa using ⟨hf, hlH⟩), f10, e10, (hte.mono (Tk.but bb nt)).app (hvs4.mono (Tk.but bb nt)), ?_, goodL_app gg.1.2 gg.2⟩
          · rw [szL_app]
            simp only [szL, sz]
            omega
          · rw [← ea, octsL_app]
            simp only [octsL, octs, List.append_assoc, List.cons_append]
    · cases i3 with
      | cons h1 h2 =>
        refine absurd ?_ c
        refine decide_eq_true ?_
        rw [List.length_reverse, List.length_cons]
        omega
      | nil =>
        have ea' : acc = octs d := by simpa [octsL] using ea
        subst ea'
        exact ⟨_, rfl, .inl ⟨f, _, rfl, SqL.of f3, fun t ht => q t _ (s3.trans (same_new ht)) (SqT.of upd_same)⟩⟩
end
end K77
end

section
set_option Elab.async false
set_option linter.all false
set_option maxRecDepth 100000
set_option maxHeartbeats 4000000
namespace K77
open PySem L2
section
variable {X : Cx}
/-- text * int -/
theorem op_mulS : OpR X (binaryOp .Mult) (fun x y H Q => ∃ (z : Str) (k : Int), x = .str z ∧ y = .int k ∧ z.length ≠ 0 ∧ z.length ≤ 1000 ∧ 2 ≤ k ∧ k ≤ 1000 ∧ ((List.replicate k.toNat z.cps).foldl (· ++ ·) #[]).size ≤ sizeLine ∧ Q (.str ⟨(List.replicate k.toNat z.cps).foldl (· ++ ·) #[]⟩) H) := by
  intro pins s σ H x y v u Q I rx ry h
  obtain ⟨z, k, rfl, rfl, h0, h1, h2, h3, h4, q⟩ := h
  obtain ⟨t, rfl⟩ := rx
  obtain ⟨t', rfl⟩ := ry
  have hs : z.length * k.toNat ≤ 1000 * 1000 := Nat.mul_le_mul h1 (by omega)
  have c1 : (k == 1 || z.length == 0) = false := by
    rw [beq_eq_false_iff_ne.mpr (by omega), beq_eq_false_iff_ne.mpr h0]; rfl
  refine PySem.P.mul_str (by rw [decide_eq_false (by omega), decide_eq_false (by omega)]; rfl) (fun _ _ => ?_) (fun _ _ => ?_) ?_
  · have : (2 ^ 63 - 1) / 1000 ≤ (2 ^ 63 - 1) / k := by
      refine Int.le_ediv_of_mul_le (by omega) ?_
      have : (2 ^ 63 - 1) / 1000 * k ≤ (2 ^ 63 - 1) / 1000 * 1000 := Int.mul_le_mul_of_nonneg_left h3 (by decide)
      have e : ((2 : Int) ^ 63 - 1) / 1000 * 1000 ≤ 2 ^ 63 - 1 := by decide
      omega
    have e2 : ((2 : Int) ^ 63 - 1) / 1000 > 1000 := by decide
    omega
  · unfold Builtin.Str.tooLong
    rw [sizeLine_eq]
    exact decide_eq_false (by omega)
  · rw [if_neg (by omega), if_neg (by rw [c1]; exact Bool.false_ne_true)]
    exact ⟨h4, ⟨.str _, H, I.tok _, ⟨_, rfl⟩, q⟩⟩
end
/-! ### how deep -/
mutual
def dp : D → Nat
  | .tup xs => 1 + dpL xs
  | _ => 0
def dpL : List D → Nat
  | [] => 0
  | x :: xs => max (dp x) (dpL xs)
end
theorem dpL_mem : ∀ {xs : List D} {x : D}, x ∈ xs → dp x ≤ dpL xs
  | y :: ys, x, h => by
    rcases List.mem_cons.mp h with rfl | h
    · exact Nat.le_max_left _ _
    · exact Nat.le_trans (dpL_mem h) (Nat.le_max_right _ _)
section
variable {P : Program} {w : World} {K : PySem.W.Frag} {mg : Str → Option Value} {base : Heap}
/-! ### _law_same: what is alike is told alike -/
def spSame (K : PySem.W.Frag) (n : Nat) : Sp := fun vs H Q _ => ∃ (v1 v2 : V) (d : D), vs = [v1, v2] ∧ Im K H v1 d ∧ Im K H v2 d ∧ dp d < n ∧ ∀ H', Same H H' → Q (.bl true) H'
theorem never_ok {CX : CXT} {k : Nat} {f : Addr} {fd : FuncData} {ps : List Str} {sp : Sp} (h : ∀ vs H Q E, ¬ sp vs H Q E) : FnOk P w K mg base CX k f fd ps sp :=
  ⟨fun vs H Q E z => absurd z (h vs H Q E), fun _ _ _ H _ _ vs Q E _ _ _ _ z => absurd z (h vs H Q E)⟩
theorem ok_same (T : Tx P K mg) : ∀ n : Nat, FnOk P w K mg base CX0 (n + 1) T._law_same.f T._law_same.fd ["told", "due"] (spSame K n)
  | 0 => never_ok fun vs H Q E h => by
    obtain ⟨_, _, d, _, _, _, h, _⟩ := h
    exact Nat.not_lt_zero _ h
  | n + 1 => by
    have G__law_same := ok_same T n
    refine T._law_same.F.ok sc__law_same (fun vs H Q E h => ?_) (fun cdv A outer s H vs Q E hr h => ?_)
    · obtain ⟨_, _, _, rfl, _⟩ := h
      rfl
    · obtain ⟨v1, v2, d, rfl, h1, h2, hd, q⟩ := h
      refine ⟨_, (pss_cons (ps_if (pt_val (pe_callB call_isi (by rfl) T.n_isinstance PyProof.Rows.boot_isinstance (pa_cons (pv 1) (pa_cons (pe_bltn (v := .ty "tuple") rfl T.n_tuple PyProof.Rows.boot_tuple rfl) pa_nil)))) (pss_cons (ps_if (PW.pt (pw_or (pt_not (pt_val (pe_callB call_isi (by rfl) T.n_isinstance PyProof.Rows.boot_isinstance (pa_cons (pv 0) (pa_cons (pe_bltn (v := .ty "tuple") rfl T.n_tuple PyProof.Rows.boot_tuple rfl) pa_nil))))) (pw_or1 (pt_cmpR op_ne (pe_callB (CallR.or call_len_seq call_len_str) (by rfl) T.n_len PySem.boot_len (pa_cons (pv 0) pa_nil)) (pe_callB (CallR.or call_len_seq call_len_str) (by rfl) T.n_len PySem.boot_len (pa_cons (pv 1) pa_nil)) (nomark _))))) (pss_one (ps_ret pe_bl)) pss_nil)
        (pss_cons (ps_for PassesOwn.never rfl (RZ.pi_zipA (by rfl) T.n_zip (pa_cons (pv 0) (pa_cons (pv 1) pa_nil))) (pg_tup rfl (pgs_cons (pg_name (i := 2) sc__law_same.nd rfl (by first | exact Or.inl rfl | exact Or.inr rfl)) (pgs_cons (pg_name (i := 3) sc__law_same.nd rfl (by first | exact Or.inl rfl | exact Or.inr rfl)) pgs_nil))) (pss_one (ps_if (pt_not (pt_val (pe_call G__law_same (hr.mono (by omega)) rfl T._law_same.m T._law_same.F.kp T._law_same.b .nil pass0 (pa_cons (pv 2) (pa_cons (pv 3) pa_nil))))) (pss_one (ps_ret pe_bl)) pss_nil)))
        (pss_one (ps_ret pe_bl)))) pss_nil)
        (pss_cons (ps_if (pt_cmpR op_isN (pv 1) pe_non (nomark _)) (pss_one (ps_ret (pe_cmpR op_isN (pv 0) pe_non (nomark _)))) pss_nil)
        (pss_cons (ps_if (PW.pt (pw_or (pt_cmpR op_isTo (pv 1) pe_bl (nomark _)) (pw_or1 (pt_cmpR op_isTo (pv 1) pe_bl (nomark _))))) (pss_one (ps_ret (pe_and (pe_callB call_isi (by rfl) T.n_isinstance PyProof.Rows.boot_isinstance (pa_cons (pv 0) (pa_cons (pe_bltn (v := .ty "bool") rfl T.n_bool PyProof.Rows.boot_bool rfl) pa_nil))) (pe_one (pe_cmpR op_eq (pv 0) (pv 1) (nomark _)))))) pss_nil)
        (pss_cons (ps_if (pt_val (pe_callB call_isi (by rfl) T.n_isinstance PyProof.Rows.boot_isinstance (pa_cons (pv 1) (pa_cons (pe_bltn (v := .ty "int") rfl T.n_int PyProof.Rows.boot_int rfl) pa_nil)))) (pss_one (ps_ret (pe_and (pe_callB call_isi (by rfl) T.n_isinstance PyProof.Rows.boot_isinstance (pa_cons (pv 0) (pa_cons (pe_bltn (v := .ty "int") rfl T.n_int PyProof.Rows.boot_int rfl) pa_nil))) (pe_and (pe_not (pe_callB call_isi (by rfl) T.n_isinstance PyProof.Rows.boot_isinstance (pa_cons (pv 0) (pa_cons (pe_bltn (v := .ty "bool") rfl T.n_bool PyProof.Rows.boot_bool rfl) pa_nil)))) (pe_one (pe_cmpR op_eq (pv 0) (pv 1) (nomark _))))))) pss_nil)
        (pss_one (ps_ret (pe_and (pe_callB call_isi (by rfl) T.n_isinstance PyProof.Rows.boot_isinstance (pa_cons (pv 0) (pa_cons (pe_bltn (v := .ty "str") rfl T.n_str PyProof.Rows.boot_str rfl) pa_nil))) (pe_and (pe_callB call_isi (by rfl) T.n_isinstance PyProof.Rows.boot_isinstance (pa_cons (pv 1) (pa_cons (pe_bltn (v := .ty "str") rfl T.n_str PyProof.Rows.boot_str rfl) pa_nil))) (pe_one (pe_cmpR op_eq (pv 0) (pv 1) (nomark _))))))))))), ?_⟩
      refine ⟨_, rfl, ?_⟩
      simp only [tCons, tC, tNil]
      refine isi_of h2 (kit_tup _) ⟨_, rfl, ?_⟩
      cases h2 with
      | @tup b ys ds hys hyl =>
        cases h1 with
        | @tup a xs _ hxs hxl =>
        refine iteT ?_
        refine ⟨_, rfl, ?_⟩
        simp only [tCons, tC, tNil]
        refine isi_of (.tup hxs hxl) (kit_tup _) ⟨_, rfl, iteF ?_⟩
        have e1 := hxl.len
        have e2 := hyl.len
        refine ⟨_, rfl, .inl ⟨a, xs, rfl, .inr hxs, _, rfl, .inl ⟨b, ys, rfl, .inr hys, rfl, _, rfl, ?_⟩⟩⟩
        refine ite2 (fun c => absurd c (by rw [e1, e2]; simp)) (fun _ => ?_)
        refine ⟨_, rfl, _, rfl, a, b, xs, ys, rfl, .inr ⟨hxs, hys, RZ.for_zipT (xs := xs) (ys := ys) (e1.trans e2.symm) (fun i σ H' => ∃ u v, σ = [some (.ref a), some (.ref b), u, v] ∧ Same H H') ⟨none, none, rfl, Same.refl _⟩ ?_ ?_ ?_⟩⟩
        · rintro i σ H' ⟨u, v, rfl, s1⟩
          exact ⟨Tk.same s1 _ _ hxs, Tk.same s1 _ _ hys⟩
        · rintro i x y Tt σ H' hx hy ⟨u, v, rfl, s1⟩ hT
          have s2 : Same H' (upd H' Tt (.tup [x, y])) := same_new hT
          have e3 : upd H' Tt (.tup [x, y]) Tt = some (.tup [x, y]) := upd_same
          generalize upd H' Tt (.tup [x, y]) = H2 at s2 e3 ⊢
          obtain ⟨d1, hd1, i1⟩ := hxl.get hx
          obtain ⟨d2, hd2, i2⟩ := hyl.get hy
          obtain rfl : d1 = d2 := by rw [hd1] at hd2; exact Option.some.inj hd2
          have hdm := dpL_mem (List.mem_of_getElem? hd1)
          have hds : dp d1 < n := by
            have : 1 + dpL ds < n + 1 := hd
            omega
          refine ⟨Tt, _, rfl, SqT.of e3, rfl, _, _, rfl, _, _, rfl, rfl, ?_⟩
          refine ⟨_, rfl, _, rfl, x, y, d1, rfl, i1.mono (Tk.same (s1.trans s2)), i2.mono (Tk.same (s1.trans s2)), hds, fun H3 s3 => ⟨_, rfl, iteF ⟨_, _, rfl, s1.trans (s2.trans s3)⟩⟩⟩
        · rintro σ H' ⟨u, v, rfl, s1⟩
          exact q H' s1
      | non =>
        cases h1
        refine iteF ?_
        refine ⟨_, rfl, rfl, _, rfl, iteT ?_⟩
        exact ⟨_, rfl, rfl, q H (Same.refl _)⟩
      | bl b =>
        cases h1
        refine iteF ?_
        refine ⟨_, rfl, rfl, _, rfl, iteF ?_⟩
        have fin : (tAndV (tCB (rIsi K) (tCons (tVar 0) (tCons (tC (.ty "bool")) tNil))) (tOp rEq (tVar 0) (tVar 1))) [some (.bl b), some (.bl b), none, none] H Q := by
          refine ⟨_, rfl, ?_⟩
          simp only [tCons, tC, tNil]
          refine isi_of (.bl b) (kit_bool _) ⟨_, rfl, iteT ⟨_, rfl, _, rfl, rfl, ?_⟩⟩
          rw [decide_eq_true rfl]
          exact q H (Same.refl _)
        cases b with
        | true => exact ⟨_, rfl, true, rfl, _, rfl, iteT (iteT fin)⟩
        | false => exact ⟨_, rfl, true, rfl, _, rfl, iteF ⟨_, rfl, false, rfl, _, rfl, iteT fin⟩⟩
      | int i =>
        cases h1
        refine iteF ?_
        refine ⟨_, rfl, rfl, _, rfl, iteF ?_⟩
        refine ⟨_, rfl, true, rfl, _, rfl, iteF ⟨_, rfl, false, rfl, _, rfl, iteF ?_⟩⟩
        refine ⟨_, rfl, ?_⟩
        simp only [tCons, tC, tNil]
        refine isi_of (.int i) (kit_int _) ⟨_, rfl, iteT ?_⟩
        refine ⟨_, rfl, ?_⟩
        simp only [tCons, tC, tNil]
        refine isi_of (.int i) (kit_int _) ⟨_, rfl, iteT ?_⟩
        refine ⟨_, rfl, ?_⟩
        simp only [tCons, tC, tNil]
        refine isi_of (.int i) (kit_bool _) ⟨_, rfl, _, rfl, iteT ?_⟩
        refine ⟨_, rfl, _, rfl, rfl, ?_⟩
        rw [decide_eq_true rfl]
        exact q H (Same.refl _)
      | str z =>
        cases h1
        refine iteF ?_
        refine ⟨_, rfl, rfl, _, rfl, iteF ?_⟩
        refine ⟨_, rfl, true, rfl, _, rfl, iteF ⟨_, rfl, false, rfl, _, rfl, iteF ?_⟩⟩
        refine ⟨_, rfl, ?_⟩
        simp only [tCons, tC, tNil]
        refine isi_of (.str z) (kit_int _) ⟨_, rfl, iteF ?_⟩
        refine ⟨_, rfl, ?_⟩
        simp only [tCons, tC, tNil]
        refine isi_of (.str z) (kit_str _) ⟨_, rfl, iteT ?_⟩
        refine ⟨_, rfl, ?_⟩
        simp only [tCons, tC, tNil]
        refine isi_of (.str z) (kit_str _) ⟨_, rfl, iteT ?_⟩
        refine ⟨_, rfl, _, rfl, rfl, ?_⟩
        rw [decide_eq_true rfl]
        exact q H (Same.refl _)
end
end K77
end

section
set_option Elab.async false
set_option linter.all false
set_option maxRecDepth 100000
set_option maxHeartbeats 4000000
namespace K77
open PySem L2
section
variable {K : PySem.W.Frag}
theorem lc_str {z : Str} {g : TG} {te : TE} {vs : List Nat} {σ : St} {H1 : Hp} {Dd : Addr} {Qd : Hp → Prop} (Pv : Nat → Hp → Prop) (h0 : Pv 0 (upd H1 Dd (.lst [])))
    (hs : ∀ i c H, z.cps.toList[i]? = some c → Pv i H → g (.str ⟨#[c]⟩) (wipe σ vs) H fun σ2 H2 => wipe σ2 vs = wipe σ vs ∧
      te σ2 H2 fun y H4 => ∃ acc, H4 Dd = some (.lst acc) ∧ acc.length < sizeLine ∧ Pv (i + 1) (upd H4 Dd (.lst (acc ++ [y])))) (hd : ∀ H, Pv z.cps.toList.length H → Qd H) :
    ∃ W : Nat → Nat → Hp → Prop, (∃ m, W 0 m (upd H1 Dd (.lst []))) ∧ ∀ i m H, W i m H →
      ((Its z).stop i H ∧ Qd H) ∨ ((Its z).go i H ∧ ∃ Nx : Hp → Prop, (∀ H', Nx H' → ∃ m', m' < m ∧ W (i + 1) m' H') ∧ ∀ x H', (Its z).yld i H x H' → g x (wipe σ vs) H' fun σ2 H2 => wipe σ2 vs = wipe σ vs ∧ tYes σ2 H2 fun b H3 =>
        if b = true then te σ2 H3 fun y H4 => ∃ acc, H4 Dd = some (.lst acc) ∧ acc.length < sizeLine ∧ Nx (upd H4 Dd (.lst (acc ++ [y]))) else Nx H3) := by
  have hz : z.cps.toList.length = z.cps.size := Array.length_toList
  refine ⟨fun i m H => m = z.cps.size - i ∧ i ≤ z.cps.size ∧ Pv i H, ⟨z.cps.size, by simp, Nat.zero_le _, h0⟩, ?_⟩
  rintro i m H ⟨rfl, hi, p⟩
  by_cases hlt : i < z.cps.size
  · refine .inr ⟨hlt, Pv (i + 1), fun H' p' => ⟨z.cps.size - (i + 1), by omega, rfl, hlt, p'⟩, fun v H' y => ?_⟩
    obtain ⟨rfl, c, hc, rfl⟩ := y
    exact hs i c H' (by rw [Array.getElem?_toList]; exact hc) p
  · obtain rfl : i = z.cps.size := by omega
    exact .inl ⟨Nat.le_refl _, hd H (by rw [hz]; exact p)⟩
end
section
variable {P : Program} {w : World} {K : PySem.W.Frag} {mg : Str → Option Value} {base : Heap}
/-! ### the law's octets -/
def spOcts (K : PySem.W.Frag) (n : Nat) : Sp := fun vs H Q _ => ∃ (v : V) (d : D), vs = [v] ∧ Im K H v d ∧ Good d ∧ (octs d).length ≤ 1000000 ∧ dp d < n ∧ ∀ p H', H p = none → Same H H' → H' p = some (.lst ((octs d).map V.int)) → Q (.ref p) H'
theorem octsL_take_succ {ds : List D} {i : Nat} {d : D} (h : ds[i]? = some d) : octsL (ds.take (i + 1)) = octsL (ds.take i) ++ octs d := by
  rw [take_snoc h, octsL_app]
  simp [octsL]
theorem octsL_take_len : ∀ (ds : List D) (i : Nat), (octsL (ds.take i)).length ≤ (octsL ds).length
  | [], i => by simp
  | d :: ds, 0 => by simp [octsL]
  | d :: ds, i + 1 => by
    have := octsL_take_len ds i
    simp only [List.take_succ_cons, octsL, List.length_append]
    omega
theorem goodL_mem : ∀ {ds : List D} {d : D}, GoodL ds → d ∈ ds → Good d
  | x :: xs, d, g, h => by
    rcases List.mem_cons.mp h with rfl | h
    · exact g.1
    · exact goodL_mem g.2 h
theorem octsL_mem_len : ∀ {ds : List D} {d : D}, d ∈ ds → (octs d).length ≤ (octsL ds).length
  | x :: xs, d, h => by
    simp only [octsL, List.length_append]
    rcases List.mem_cons.mp h with rfl | h
    · omega
    · have := octsL_mem_len h
      omega
theorem ok_octs (T : Tx P K mg) (G__law_sevens : FnOk P w K mg base CX0 1 T._law_sevens.f T._law_sevens.fd ["number"] spCounted) (G__law_signs : FnOk P w K mg base CX0 1 T._law_signs.f T._law_signs.fd [] spSigns) :
    ∀ n : Nat, FnOk P w K mg base CX0 (n + 2) T._law_octets.f T._law_octets.fd ["value"] (spOcts K n)
  | 0 => never_ok fun vs H Q E h => by
    obtain ⟨_, d, _, _, _, _, h, _⟩ := h
    exact Nat.not_lt_zero _ h
  | n + 1 => by
    have G__law_octets := ok_octs T G__law_sevens G__law_signs n
    refine T._law_octets.F.ok sc__law_octets (fun vs H Q E h => ?_) (fun cdv A outer s H vs Q E hr h => ?_)
    · obtain ⟨_, _, rfl, _⟩ := h
      rfl
    · obtain ⟨v, d, rfl, hv, gd, hz, hd, q⟩ := h
      refine ⟨_, (pss_cons (ps_if (PW.pt (pw_or (pt_cmpR op_isN (pv 0) pe_non (nomark _)) (pw_or (pt_cmpR op_isTo (pv 0) pe_bl (nomark _)) (pw_or1 (pt_cmpR op_isTo (pv 0) pe_bl (nomark _)))))) (pss_one (ps_ret (pe_lst (pa_cons (pe_ifExp (pt_cmpR op_isN (pv 0) pe_non (nomark _)) pe_int (pe_ifExp (pt_val (pv 0)) pe_int pe_int)) pa_nil)))) pss_nil)
        (pss_cons (ps_if (pt_val (pe_callB call_isi (by rfl) T.n_isinstance PyProof.Rows.boot_isinstance (pa_cons (pv 0) (pa_cons (pe_bltn (v := .ty "int") rfl T.n_int PyProof.Rows.boot_int rfl) pa_nil)))) (pss_one (ps_ret (pe_op op_cat (pe_lst (pa_cons (pe_ifExp (pt_cmpR op_ge (pv 0) pe_int (nomark _)) pe_int pe_int) pa_nil)) (pe_call G__law_sevens (hr.mono (by omega)) rfl T._law_sevens.m T._law_sevens.F.kp T._law_sevens.b .nil pass0 (pa_cons (pe_callB call_abs (by rfl) T.n_abs PyProof.Rows.boot_abs (pa_cons (pv 0) pa_nil)) pa_nil))))) pss_nil)
        (pss_cons (ps_if (pt_val (pe_callB call_isi (by rfl) T.n_isinstance PyProof.Rows.boot_isinstance (pa_cons (pv 0) (pa_cons (pe_bltn (v := .ty "str") rfl T.n_str PyProof.Rows.boot_str rfl) pa_nil)))) (pss_one (ps_ret (pe_op op_cat (pe_op op_cat (pe_lst (pa_cons pe_int pa_nil)) (pe_call G__law_sevens (hr.mono (by omega)) rfl T._law_sevens.m T._law_sevens.F.kp T._law_sevens.b .nil pass0 (pa_cons (pe_callB (CallR.or call_len_seq call_len_str) (by rfl) T.n_len PySem.boot_len (pa_cons (pv 0) pa_nil)) pa_nil))) (pe_lc (own := [("sign", 3)]) (g := gName 3) (tt := tYes) rfl sc__law_octets.nd (pi_str (pv 0)) (blkOk_by (N := ["value", "found", "part", "sign"]) (sc := defScope s__law_octets) (by decide +kernel)) (fun _ _ _ _ _ => (pg_name (i := 3) sc__law_octets.nd rfl (by first | exact Or.inl rfl | exact Or.inr rfl))) (fun _ _ _ _ _ => pts_nil) (fun _ _ _ _ _ => (pe_m1 PySem.F.slot_str_index PySem.F.type_str_index mt_sindex (pe_call0 G__law_signs (hr.mono (by omega)) rfl T._law_signs.m T._law_signs.F.kp T._law_signs.b .nil pass0) (pv 3))))))) pss_nil)
        (pss_cons (ps_set (i := 1) sc__law_octets.nd rfl (by first | exact Or.inl rfl | exact Or.inr rfl) (pe_op op_cat (pe_lst (pa_cons pe_int pa_nil)) (pe_call G__law_sevens (hr.mono (by omega)) rfl T._law_sevens.m T._law_sevens.F.kp T._law_sevens.b .nil pass0 (pa_cons (pe_callB (CallR.or call_len_seq call_len_str) (by rfl) T.n_len PySem.boot_len (pa_cons (pv 0) pa_nil)) pa_nil))))
        (pss_cons (ps_for PassesOwn.never rfl (pi_tup (pv 0)) (pg_name (i := 2) sc__law_octets.nd rfl (by first | exact Or.inl rfl | exact Or.inr rfl)) (pss_one (ps_set (i := 1) sc__law_octets.nd rfl (by first | exact Or.inl rfl | exact Or.inr rfl) (pe_op op_cat (pv 1) (pe_call G__law_octets (hr.mono (by omega)) rfl T._law_octets.m T._law_octets.F.kp T._law_octets.b .nil pass0 (pa_cons (pv 2) pa_nil))))))
        (pss_one (ps_ret (pv 1)))))))), ?_⟩
      have one : ∀ k : Int, octs d = [k] → ∀ p, H p = none → Q (.ref p) (upd H p (.lst [.int k])) := fun k e p hp => q p _ hp (same_new hp) (by rw [upd_same, e]; rfl)
      cases hv with
      | non =>
        refine ⟨_, rfl, rfl, _, rfl, iteT (iteT ?_)⟩
        exact ⟨_, rfl, rfl, _, rfl, iteT ⟨(by show 1 ≤ sizeLine; decide), one 0 rfl⟩⟩
      | bl b =>
        refine ⟨_, rfl, rfl, _, rfl, iteF ?_⟩
        cases b with
        | true =>
          refine ⟨_, rfl, true, rfl, _, rfl, iteT (iteT ?_)⟩
          exact ⟨_, rfl, rfl, _, rfl, iteF ⟨_, rfl, _, rfl, iteT ⟨(by show 1 ≤ sizeLine; decide), one 2 rfl⟩⟩⟩
        | false =>
          refine ⟨_, rfl, true, rfl, _, rfl, iteF ⟨_, rfl, false, rfl, _, rfl, iteT ?_⟩⟩
          exact ⟨_, rfl, rfl, _, rfl, iteF ⟨_, rfl, _, rfl, iteF ⟨(by show 1 ≤ sizeLine; decide), one 1 rfl⟩⟩⟩
      | int i =>
        refine ⟨_, rfl, rfl, _, rfl, iteF ?_⟩
        refine ⟨_, rfl, true, rfl, _, rfl, iteF ⟨_, rfl, false, rfl, _, rfl, iteF ?_⟩⟩
        refine ⟨_, rfl, ?_⟩
        simp only [tCons, tC, tNil]
        refine isi_of (.int i) (kit_int _) ⟨_, rfl, iteT ?_⟩
        have hn : i.natAbs < 128 ^ 9 := Nat.lt_trans gd (by decide)
        have hni : (if i < 0 then -i else i) = (i.natAbs : Int) := by
          by_cases z : i < 0
          · rw [if_pos z]; omega
          · rw [if_neg z]; omega
        have hsl := sev_len 8 _ hn
        refine ⟨_, rfl, _, _, rfl, rfl, _, rfl, ?_⟩
        refine ite2 (fun c0 => ?_) (fun c0 => ?_)
        · have h0 : 0 ≤ i := of_decide_eq_true c0
          refine ⟨(by show 1 ≤ sizeLine; decide), fun a1 ha1 => ⟨_, rfl, i, rfl, i.natAbs, by rw [hni]; rfl, hn, fun p6 H6 h6 s6 e6 => ⟨a1, p6, _, _, rfl, rfl, s6 _ _ upd_same, e6, by rw [List.length_map, sizeLine_eq]; show 1 + _ ≤ _; omega, fun p7 hp7 => ?_⟩⟩⟩
          have sm : Same H H6 := (same_new ha1).trans s6
          exact q p7 _ (sm.free hp7) (sm.trans (same_new hp7)) (by rw [upd_same]; simp only [octs, if_pos h0]; rfl)
        · have h0 : ¬ 0 ≤ i := fun z => c0 (decide_eq_true z)
          refine ⟨(by show 1 ≤ sizeLine; decide), fun a1 ha1 => ⟨_, rfl, i, rfl, i.natAbs, by rw [hni]; rfl, hn, fun p6 H6 h6 s6 e6 => ⟨a1, p6, _, _, rfl, rfl, s6 _ _ upd_same, e6, by rw [List.length_map, sizeLine_eq]; show 1 + _ ≤ _; omega, fun p7 hp7 => ?_⟩⟩⟩
          have sm : Same H H6 := (same_new ha1).trans s6
          exact q p7 _ (sm.free hp7) (sm.trans (same_new hp7)) (by rw [upd_same]; simp only [octs, if_neg h0]; rfl)
      | str z =>
        refine ⟨_, rfl, rfl, _, rfl, iteF ?_⟩
        refine ⟨_, rfl, true, rfl, _, rfl, iteF ⟨_, rfl, false, rfl, _, rfl, iteF ?_⟩⟩
        refine ⟨_, rfl, ?_⟩
        simp only [tCons, tC, tNil]
        refine isi_of (.str z) (kit_int _) ⟨_, rfl, iteF ?_⟩
        refine ⟨_, rfl, ?_⟩
        simp only [tCons, tC, tNil]
        refine isi_of (.str z) (kit_str _) ⟨_, rfl, iteT ?_⟩
        have hzs : z.cps.toList.length = z.cps.size := Array.length_toList
        have hn : z.cps.toList.length < 128 ^ 9 := by rw [hzs]; exact Nat.lt_trans gd.1 (by decide)
        have hsl := sev_len 8 _ hn
        have hzz := gd.1
        refine ⟨(by show 1 ≤ sizeLine; decide), fun a1 ha1 => ⟨_, rfl, .inr ⟨z, rfl, (by show z.cps.size ≤ sizeLine; rw [sizeLine_eq]; omega), z.cps.toList.length, (by rw [hzs]; rfl), hn, fun p6 H6 h6 s6 e6 => ⟨a1, p6, _, _, rfl, rfl, s6 _ _ upd_same, e6, by rw [List.length_map, sizeLine_eq]; show 1 + _ ≤ _; omega, fun p7 hp7 => ?_⟩⟩⟩⟩
        have s7 : Same H _ := (same_new ha1).trans (s6.trans (same_new (o := .lst ([V.int 5] ++ (sev z.cps.toList.length).map V.int)) hp7))
        have e7 : upd H6 p7 (.lst ([V.int 5] ++ (sev z.cps.toList.length).map V.int)) p7 = some (.lst ([V.int 5] ++ (sev z.cps.toList.length).map V.int)) := upd_same
        generalize upd H6 p7 (.lst ([V.int 5] ++ (sev z.cps.toList.length).map V.int)) = H7 at s7 e7 ⊢
        refine ⟨_, rfl, z, rfl, fun Dd hD => lc_str (fun i H' => Same H7 H' ∧ H' Dd = some (.lst ((z.cps.toList.take i).map fun c => V.int ((idx c : Nat) : Int)))) ⟨same_new hD, upd_same⟩ ?_ ?_⟩
        · rintro i c H8 hc ⟨s8, e8⟩
          obtain ⟨rest, hocc⟩ := idx_occ (gd.2 c (List.mem_of_getElem? hc))
          have hi := (List.getElem?_eq_some_iff.mp hc).1
          refine ⟨rfl, rfl, ⟨_, rfl⟩, _, rfl, _, _, _, rest, rfl, rfl, hocc, _, e8, by rw [List.length_map, List.length_take, sizeLine_eq]; omega, ?_, ?_⟩
          · have : H7 Dd = none := hD
            exact Same.put s8 this
          · rw [upd_same, take_snoc hc, List.map_append]
            rfl
        · rintro H8 ⟨s8, e8⟩
          rw [List.take_length] at e8
          refine ⟨p7, Dd, _, _, rfl, rfl, s8 _ _ e7, e8, ?_, fun p9 hp9 => ?_⟩
          · rw [List.length_append, List.length_map, List.length_map, sizeLine_eq]
            show 1 + _ + _ ≤ _
            omega
          · refine q p9 _ ((s7.trans s8).free hp9) ((s7.trans s8).trans (same_new hp9)) ?_
            rw [upd_same]
            simp only [octs, List.map_cons, List.map_append, List.map_map]
            rfl
      | @tup a xs es hs hl =>
        refine ⟨_, rfl, rfl, _, rfl, iteF ?_⟩
        refine ⟨_, rfl, true, rfl, _, rfl, iteF ⟨_, rfl, false, rfl, _, rfl, iteF ?_⟩⟩
        refine ⟨_, rfl, ?_⟩
        simp only [tCons, tC, tNil]
        refine isi_of (.tup hs hl) (kit_int _) ⟨_, rfl, iteF ?_⟩
        refine ⟨_, rfl, ?_⟩
        simp only [tCons, tC, tNil]
        refine isi_of (.tup hs hl) (kit_str _) ⟨_, rfl, iteF ?_⟩
        have hxl := hl.len
        have hn : es.length < 128 ^ 9 := Nat.lt_trans gd.1 (by decide)
        have hsl := sev_len 8 _ hn
        have e8 : (octs (.tup es)).length = 1 + (sev es.length).length + (octsL es).length := by
          simp only [octs, List.length_cons, List.length_append]
          omega
        rw [e8] at hz
        refine ⟨(by show 1 ≤ sizeLine; decide), fun a1 ha1 => ⟨_, rfl, .inl ⟨a, xs, rfl, .inr (Tk.same (same_new ha1) _ _ hs), es.length, (by rw [hxl]; rfl), hn, fun p6 H6 h6 s6 e6 => ⟨a1, p6, _, _, rfl, rfl, s6 _ _ upd_same, e6, by rw [List.length_map, sizeLine_eq]; show 1 + _ ≤ _; omega, fun p7 hp7 => ?_⟩⟩⟩⟩
        have s7 : Same H _ := (same_new ha1).trans (s6.trans (same_new (o := .lst ([V.int 6] ++ (sev es.length).map V.int)) hp7))
        have hf7 : H p7 = none := ((same_new ha1).trans s6).free hp7
        have e7 : upd H6 p7 (.lst ([V.int 6] ++ (sev es.length).map V.int)) p7 = some (.lst ([V.int 6] ++ (sev es.length).map V.int)) := upd_same
        generalize upd H6 p7 (.lst ([V.int 6] ++ (sev es.length).map V.int)) = H7 at s7 e7 ⊢
        refine ⟨_, rfl, a, rfl, ⟨xs, Tk.same s7 _ _ hs⟩, for_tup (xs := xs) (fun i σ H' => ∃ (p : Addr) (u v : Option V), σ = [some (.ref a), some (.ref p), u, v] ∧ H p = none ∧ Same H H' ∧ H' p = some (.lst ((6 :: (sev es.length ++ octsL (es.take i))).map V.int))) ⟨p7, none, none, rfl, hf7, s7, by rw [e7]; simp [octsL]⟩ ?_ ?_ ?_⟩
        · rintro i σ H' hi ⟨p, u, v, rfl, hp, s8, e8⟩
          exact Tk.same s8 _ _ hs
        · rintro i x σ H' hx ⟨p, u, v, rfl, hp, s8, e8'⟩
          obtain ⟨d1, hd1, i1⟩ := hl.get hx
          have hm := List.mem_of_getElem? hd1
          have hdm := dpL_mem hm
          have hds : dp d1 < n := by
            have : 1 + dpL es < n + 1 := hd
            omega
          have hol := octsL_mem_len hm
          have htl := octsL_take_len es (i + 1)
          rw [octsL_take_succ hd1, List.length_append] at htl
          refine ⟨_, rfl, _, rfl, x, d1, rfl, i1.mono (Tk.same s8), goodL_mem gd.2 hm, by omega, hds, fun p8 H8 hp8 s9 e9 => ⟨p, p8, _, _, rfl, rfl, s9 _ _ e8', e9, ?_, fun p9 hp9 => ?_⟩⟩
          · rw [List.length_map, List.length_map, List.length_cons, List.length_append, sizeLine_eq]
            omega
          · have sm := s8.trans s9
            refine ⟨p9, _, _, rfl, sm.free hp9, sm.trans (same_new hp9), ?_⟩
            rw [upd_same, octsL_take_succ hd1]
            simp only [List.map_cons, List.map_append, List.append_assoc, List.cons_append]
        · rintro σ H' ⟨p, u, v, rfl, hp, s8, e8⟩
          refine ⟨_, rfl, q p H' hp s8 ?_⟩
          rw [hxl, List.take_length] at e8
          rw [e8]
          simp only [octs]

/-! ### any value -/
def LL : Nat → Nat
  | 0 => 22
  | n + 1 => 2 + 3 * LL n
/-- how many octets 6 -/
def CC : Nat → Nat
  | 0 => 7
  | n + 1 => 2 + 3 * CC n
theorem CC_ge : ∀ n, 7 ≤ CC n
  | 0 => Nat.le_refl _
  | n + 1 => by
    have := CC_ge n
    show 7 ≤ 2 + 3 * CC n
    omega
def spAny (K : PySem.W.Frag) (n : Nat) : Sp := fun vs H Q _ => ∃ (b : Addr) (m : Nat), vs = [.ref b, .int m] ∧ Box H b ∧ m < n ∧ ∀ v H' d, But [b] H H' → Box H' b → Im K H' v d → Good d → dp d ≤ m → (octs d).length ≤ LL m → (octs d).count 6 ≤ CC m → Q v H'
theorem LL_ge : ∀ n, 22 ≤ LL n
  | 0 => Nat.le_refl _
  | n + 1 => by
    have := LL_ge n
    show 22 ≤ 2 + 3 * LL n
    omega
theorem dpL_snoc : ∀ (a : List D) (d : D), dpL (a ++ [d]) = max (dpL a) (dp d)
  | [], d => by simp [dpL]
  | x :: a, d => by
    have := dpL_snoc a d
    simp only [List.cons_append, dpL, this]
    omega
structure Leaf (K : PySem.W.Frag) (v : V) (d : D) : Prop where
  im : ∀ H, Im K H v d
  gd : Good d
  ln : (octs d).length ≤ 22
  ct : (octs d).count 6 ≤ 7
  dp : dp d = 0
theorem leaf_int (i : Int) (h : i.natAbs < 128 ^ 6) : Leaf K (.int i) (.int i) :=
  ⟨fun _ => .int i, h, by have := sev_len 5 _ h; simp only [octs, List.length_cons]; omega, Nat.le_trans List.count_le_length (by have := sev_len 5 _ h; simp only [octs, List.length_cons]; omega), rfl⟩
theorem leaf_str (z : Str) (h : z.cps.size ≤ 20) (hc : (z.cps.toList.all fun c => sigs.contains c) = true) (h6 : (z.cps.toList.map fun c => ((idx c : Nat) : Int)).count 6 ≤ 5) : Leaf K (.str z) (.str z) := by
  have hzs : z.cps.toList.length = z.cps.size := Array.length_toList
  refine ⟨fun _ => .str z, ⟨by omega, fun c hm => ?_⟩, ?_, ?_, rfl⟩
  · have := List.all_eq_true.mp hc c hm
    simpa using this
  · have := sev_len 0 z.cps.toList.length (by omega)
    simp only [octs, List.length_cons, List.length_append, List.length_map]
    omega
  · have h1 := sev_len 0 z.cps.toList.length (by omega)
    have h2 := List.count_le_length (a := (6 : Int)) (l := sev z.cps.toList.length)
    simp only [octs, List.count_cons, List.count_append]
    split <;> omega
theorem ok_any (T : Tx P K mg) (G__law_take : FnOk P w K mg base CX0 1 T._law_take.f T._law_take.fd ["box", "many"] spTake) (G__law_pick : FnOk P w K mg base CX0 2 T._law_pick.f T._law_pick.fd ["box", "some"] spPick) :
    ∀ n : Nat, FnOk P w K mg base CX0 (n + 2) T._law_any_value.f T._law_any_value.fd ["box", "deep"] (spAny K n)
  | 0 => never_ok fun vs H Q E h => by
    obtain ⟨_, m, _, _, h, _⟩ := h
    exact Nat.not_lt_zero _ h
  | n + 1 => by
    have G__law_any_value := ok_any T G__law_take G__law_pick n
    refine T._law_any_value.F.ok sc__law_any_value (fun vs H Q E h => ?_) (fun cdv A outer s H vs Q E hr h => ?_)
    · obtain ⟨_, _, rfl, _⟩ := h
      rfl
    · obtain ⟨b, m, rfl, hb, hm, q⟩ := h
      refine ⟨_, (pss_cons (ps_set (i := 2) sc__law_any_value.nd rfl (by first | exact Or.inl rfl | exact Or.inr rfl) (pe_call G__law_take (hr.mono (by omega)) rfl T._law_take.m T._law_take.F.kp T._law_take.b .nil pass0 (pa_cons (pv 0) (pa_cons pe_int pa_nil))))
        (pss_cons (ps_if (PW.pt (pw_or (pt_cmpR op_lt (pv 2) pe_int (nomark _)) (pw_or1 (pt_cmpR op_eq (pv 1) pe_int (nomark _))))) (pss_one (ps_ret (pe_call G__law_pick (hr.mono (by omega)) rfl T._law_pick.m T._law_pick.F.kp T._law_pick.b .nil pass0 (pa_cons (pv 0) (pa_cons (pe_lst (pa_cons pe_non (pa_cons pe_bl (pa_cons pe_bl (pa_cons pe_int (pa_cons pe_int (pa_cons (pe_op op_sub pe_int pe_int) (pa_cons pe_int (pa_cons pe_int (pa_cons pe_int (pa_cons pe_int (pa_cons (pe_op op_sub pe_int pe_int) (pa_cons (pe_op op_pow pe_int pe_int) (pa_cons pe_str (pa_cons pe_str (pa_cons pe_str (pa_cons pe_str (pa_cons (pe_op op_mulS pe_str pe_int) pa_nil)))))))))))))))))) pa_nil))))) pss_nil)
        (pss_one (ps_ret (pe_tupleOf rfl T.n_tuple (pe_lc (own := [("part", 3)]) (g := gName 3) (tt := tYes) rfl sc__law_any_value.nd (pi_range1 (by rfl) T.n_range (pa_cons (pe_call G__law_take (hr.mono (by omega)) rfl T._law_take.m T._law_take.F.kp T._law_take.b .nil pass0 (pa_cons (pv 0) (pa_cons pe_int pa_nil))) pa_nil)) (blkOk_by (N := ["box", "deep", "way", "part"]) (sc := defScope s__law_any_value) (by decide +kernel)) (fun _ _ _ _ _ => (pg_name (i := 3) sc__law_any_value.nd rfl (by first | exact Or.inl rfl | exact Or.inr rfl))) (fun _ _ _ _ _ => pts_nil) (fun _ _ _ _ _ => (pe_call G__law_any_value (hr.mono (by omega)) rfl T._law_any_value.m T._law_any_value.F.kp T._law_any_value.b .nil pass0 (pa_cons (pv 0) (pa_cons (pe_op op_sub (pv 1) pe_int) pa_nil)))))))))), ?_⟩
      refine ⟨_, rfl, b, 8, rfl, hb, by decide, by decide, fun r H1 r0 r1 b1 bx1 nn1 => ?_⟩
      refine ⟨_, rfl, _, _, rfl, rfl, _, rfl, ?_⟩
      refine ite2 (fun c => iteT ?_) (fun c => ⟨_, rfl, rfl, _, rfl, ite2 (fun c2 => ?_) (fun c2 => ?_)⟩)
      rotate_left 2
      · obtain ⟨m', rfl⟩ : ∃ m', m = m' + 1 := by
          refine ⟨m - 1, ?_⟩
          have : (m : Int) ≠ 0 := vint_ne c2
          omega
        refine ⟨_, rfl, b, 4, rfl, bx1, by decide, by decide, fun r2 H2 r20 r21 b2 bx2 nn2 => ⟨r2, rfl, by omega, by omega, fun Dd hD => ?_⟩⟩
        have hDb : Dd ≠ b := fun z => by
          obtain ⟨g, t, e⟩ := bx2
          rw [z, e] at hD
          cases hD
        have b02 := b1.trans b2
        refine lc_range (fun i H' => ∃ (vs : List V) (ds : List D), H' Dd = some (.lst vs) ∧ ImL K H' vs ds ∧ GoodL ds ∧ ds.length = i ∧ dpL ds ≤ m' ∧ (octsL ds).length ≤ i * LL m' ∧ (octsL ds).count 6 ≤ i * CC m' ∧ But [b] H2 H' ∧ Box H' b)
          ⟨[], [], upd_same, .nil, trivial, rfl, Nat.zero_le _, by simp [octsL], by simp [octsL], But.of (same_new hD), bx2.same (same_new hD)⟩ ?_ ?_
        · rintro i H3 hi ⟨vs, ds, e3, i3, g3, l3, d3, o3, k3, b3, bx3⟩
          have em : ((m' + 1 : Nat) : Int) - 1 = (m' : Nat) := by omega
          refine ⟨rfl, _, rfl, _, rfl, _, _, rfl, rfl, b, m', congrArg (fun z => [V.ref b, V.int z]) em, bx3, by omega, fun v H4 d b4 bx4 hv gd hd hl hct => ?_⟩
          have e4 : H4 Dd = some (.lst vs) := b4 _ _ (by simpa using hDb) e3
          have nt3 : NoT H3 [b] := bx3.noT
          have tk4 : Tk K H3 H4 := Tk.but b4 nt3
          have nt4 : NoT H4 [Dd] := noT_lst e4 noT_nil
          have b5 : But [Dd] H4 (upd H4 Dd (.lst (vs ++ [v]))) := But.upd (by simp)
          have tk5 : Tk K H4 (upd H4 Dd (.lst (vs ++ [v]))) := Tk.but b5 nt4
          refine ⟨vs, e4, by rw [i3.len, l3, sizeLine_eq]; omega, vs ++ [v], ds ++ [d], upd_same, (i3.mono (tk4.trans tk5)).app (.cons (hv.mono tk5) .nil), goodL_app g3 ⟨gd, trivial⟩, by rw [List.length_append, l3]; rfl, ?_, ?_, ?_, ?_, ?_⟩
          · rw [dpL_snoc]
            omega
          · rw [octsL_app, List.length_append]
            simp only [octsL, List.append_nil]
            rw [Nat.add_mul]
            omega
          · rw [octsL_app, List.count_append]
            simp only [octsL, List.append_nil]
            rw [Nat.add_mul]
            omega
          · exact But.put (b3.trans b4) hD
          · obtain ⟨g, t, e⟩ := bx4
            exact ⟨g, t, b5 _ _ (by simpa using Ne.symm hDb) e⟩
        · rintro H3 ⟨vs, ds, e3, i3, g3, l3, d3, o3, k3, b3, bx3⟩
          refine .inl ⟨Dd, vs, rfl, SqL.of e3, fun q0 hq => ?_⟩
          have s4 : Same H3 (upd H3 q0 (.tup vs)) := same_new hq
          refine q _ _ (.tup ds) (b02.trans (b3.trans (But.of s4))) (bx3.same s4) (.tup (SqT.of upd_same) (i3.mono (Tk.same s4))) ⟨by omega, g3⟩ (by show 1 + dpL ds ≤ _; omega) ?_ ?_
          · have hsl := sev_len 0 ds.length (by omega)
            simp only [octs, List.length_cons, List.length_append]
            have : r2.toNat * LL m' ≤ 3 * LL m' := Nat.mul_le_mul_right _ (by omega)
            show _ ≤ 2 + 3 * LL m'
            omega
          · have hsl := sev_len 0 ds.length (by omega)
            have h2 := List.count_le_length (a := (6 : Int)) (l := sev ds.length)
            have : r2.toNat * CC m' ≤ 3 * CC m' := Nat.mul_le_mul_right _ (by omega)
            simp only [octs, List.count_cons, List.count_append]
            show _ ≤ 2 + 3 * CC m'
            split <;> omega
      all_goals
        refine ⟨_, rfl, _, _, rfl, rfl, _, _, rfl, rfl, _, _, rfl, rfl, ⟨by decide, by decide, by decide⟩, _, _, rfl, rfl, by decide, by decide, by decide, by decide, by decide, (by show 17 ≤ sizeLine; decide), fun l hl => ?_⟩
        have hlb : l ≠ b := fun z => by
          obtain ⟨g, t, e⟩ := bx1
          rw [z, e] at hl
          cases hl
        refine ⟨b, l, _, rfl, bx1.same (same_new hl), upd_same, hlb, by decide, by decide, fun v H' hv bb bx nn => ?_⟩
        obtain ⟨d, lf⟩ : ∃ d, Leaf K v d := by
          simp only [List.mem_cons, List.not_mem_nil, or_false] at hv
          rcases hv with rfl | rfl | rfl | rfl | rfl | rfl | rfl | rfl | rfl | rfl | rfl | rfl | rfl | rfl | rfl | rfl | rfl
          · exact ⟨_, ⟨fun _ => .non, trivial, by decide, by decide, rfl⟩⟩
          · exact ⟨_, ⟨fun _ => .bl _, trivial, by decide, by decide, rfl⟩⟩
          · exact ⟨_, ⟨fun _ => .bl _, trivial, by decide, by decide, rfl⟩⟩
          · exact ⟨_, leaf_int _ (by decide)⟩
          · exact ⟨_, leaf_int _ (by decide)⟩
          · exact ⟨_, leaf_int _ (by decide)⟩
          · exact ⟨_, leaf_int _ (by decide)⟩
          · exact ⟨_, leaf_int _ (by decide)⟩
          · exact ⟨_, leaf_int _ (by decide)⟩
          · exact ⟨_, leaf_int _ (by decide)⟩
          · exact ⟨_, leaf_int _ (by decide)⟩
          · exact ⟨_, leaf_int _ (by decide)⟩
          · exact ⟨_, leaf_str _ (by decide) (by decide) (by decide)⟩
          · exact ⟨_, leaf_str _ (by decide) (by decide) (by decide)⟩
          · exact ⟨_, leaf_str _ (by decide) (by decide) (by decide)⟩
          · exact ⟨_, leaf_str _ (by decide) (by decide) (by decide)⟩
          · exact ⟨_, leaf_str _ (by decide) (by decide) (by decide)⟩
        exact q v H' d (b1.trans ((But.of (same_new hl)).trans bb)) bx (lf.im H') lf.gd (by rw [lf.dp]; omega) (Nat.le_trans lf.ln (LL_ge m)) (Nat.le_trans lf.ct (CC_ge m))
end
end K77
end

section
set_option Elab.async false
set_option linter.all false
set_option maxRecDepth 100000
set_option maxHeartbeats 4000000
namespace K77
open PySem L2
/-! ### frames, plain -/
def xo (l : List Int) : Int := l.foldl Builtin.bitXor 0
theorem xor0 (x : Int) : Builtin.bitXor 0 x = x := by
  have h : Builtin.bitXor 0 x = 0 + x - 2 * Builtin.bitAnd 0 x := PyProof.Rows.bitXor_and 0 x
  rw [h]
  have e : Builtin.bitAnd 0 x = 0 := by
    unfold Builtin.bitAnd
    by_cases c : 0 ≤ x
    · simp [c]
    · simp [c]
  rw [e]
  omega
def wlist (l : List Int) : List Int := (List.range l.length).map fun i => ((i : Nat) : Int) * l.getD i 0 + l.getD i 0
theorem wlist_get {l : List Int} {i : Nat} {x : Int} (h : l[i]? = some x) : (wlist l)[i]? = some ((((i : Nat) : Int) + 1) * x) := by
  have hl := (List.getElem?_eq_some_iff.mp h).1
  unfold wlist
  rw [List.getElem?_map, List.getElem?_range hl]
  show some (((i : Nat) : Int) * l.getD i 0 + l.getD i 0) = _
  rw [List.getD_eq_getElem?_getD, h]
  show some (((i : Nat) : Int) * x + x) = _
  rw [Int.add_mul, Int.one_mul]
theorem wlist_len (l : List Int) : (wlist l).length = l.length := by
  unfold wlist
  rw [List.length_map, List.length_range]
def wt (l : List Int) : Int := (wlist l).sum % 65521
def headL (k n : Int) : List Int := [k, n / 256, n % 256, xo [k, n / 256, n % 256]]
def footL (l : List Int) : List Int := [xo l, wt l / 256, wt l % 256]
def frameL (k : Int) (l : List Int) : List Int := headL k l.length ++ l ++ footL l
def frS : List Int → (Int × List Int) ⊕ Bool
  | k :: h :: l :: c :: t => if xo [k, h, l] ≠ c then .inr false else if (t.length : Int) < 256 * h + l + 3 then .inr true
      else if footL (t.take (256 * h + l).toNat) ≠ (t.drop (256 * h + l).toNat).take 3 then .inr false else .inl (k, t.take (256 * h + l).toNat)
  | _ => .inr true
def frR (o : List Int) : Nat → Nat → List (Int × List Int) → List (Int × List Int) × Option Bool
  | 0, _, acc => (acc, none)
  | f + 1, s, acc => if o.length ≤ s then (acc, none) else match frS (o.drop s) with
    | .inl q => frR o f (s + 7 + q.2.length) (acc ++ [q])
    | .inr t => (acc, some t)
def frAll (o : List Int) : List (Int × List Int) × Option Bool := frR o (o.length + 1) 0 []
theorem frR_end {o : List Int} {f s : Nat} {acc : List (Int × List Int)} (h : o.length ≤ s) : frR o (f + 1) s acc = (acc, none) := by
  unfold frR
  rw [if_pos h]
theorem frR_stop {o : List Int} {f s : Nat} {acc : List (Int × List Int)} {t : Bool} (h : ¬ o.length ≤ s) (e : frS (o.drop s) = .inr t) : frR o (f + 1) s acc = (acc, some t) := by
  unfold frR
  rw [if_neg h, e]
theorem frR_go {o : List Int} {f s : Nat} {acc : List (Int × List Int)} {q : Int × List Int} (h : ¬ o.length ≤ s) (e : frS (o.drop s) = .inl q) : frR o (f + 1) s acc = frR o f (s + 7 + q.2.length) (acc ++ [q]) := by
  conv => lhs; unfold frR
  rw [if_neg h, e]
theorem frS_short {r : List Int} (h : r.length < 4) : frS r = .inr true := by
  match r, h with
  | [], _ => rfl
  | [_], _ => rfl
  | [_, _], _ => rfl
  | [_, _, _], _ => rfl
theorem four {r : List Int} (h : 4 ≤ r.length) : ∃ k hh l c t, r = k :: hh :: l :: c :: t := by
  match r, h with
  | k :: hh :: l :: c :: t, _ => exact ⟨k, hh, l, c, t, rfl⟩
theorem frS_changed {k h l c : Int} {t : List Int} (e : xo [k, h, l] ≠ c) : frS (k :: h :: l :: c :: t) = .inr false := if_pos e
theorem frS_torn {k h l c : Int} {t : List Int} (e : xo [k, h, l] = c) (e2 : (t.length : Int) < 256 * h + l + 3) : frS (k :: h :: l :: c :: t) = .inr true := by
  show (if xo [k, h, l] ≠ c then _ else _) = _
  rw [if_neg (fun z => z e), if_pos e2]
theorem frS_foot {k h l c : Int} {t : List Int} (e : xo [k, h, l] = c) (e2 : ¬ (t.length : Int) < 256 * h + l + 3) (e3 : footL (t.take (256 * h + l).toNat) ≠ (t.drop (256 * h + l).toNat).take 3) : frS (k :: h :: l :: c :: t) = .inr false := by
  show (if xo [k, h, l] ≠ c then _ else _) = _
  rw [if_neg (fun z => z e), if_neg e2, if_pos e3]
theorem frS_go {k h l c : Int} {t : List Int} (e : xo [k, h, l] = c) (e2 : ¬ (t.length : Int) < 256 * h + l + 3) (e3 : footL (t.take (256 * h + l).toNat) = (t.drop (256 * h + l).toNat).take 3) : frS (k :: h :: l :: c :: t) = .inl (k, t.take (256 * h + l).toNat) := by
  show (if xo [k, h, l] ≠ c then _ else _) = _
  rw [if_neg (fun z => z e), if_neg e2, if_neg (fun z => z e3)]
/-- what the law compares: the whole frame -/
theorem frame_iff {k h l c : Int} {t : List Int} (hh : 0 ≤ h ∧ h < 256) (hl : 0 ≤ l ∧ l < 256) (e : xo [k, h, l] = c) (e2 : ¬ (t.length : Int) < 256 * h + l + 3) :
    (k :: h :: l :: c :: t).take (7 + (256 * h + l).toNat) = frameL k (t.take (256 * h + l).toNat) ↔ footL (t.take (256 * h + l).toNat) = (t.drop (256 * h + l).toNat).take 3 := by
  generalize hn : (256 * h + l).toNat = n
  have hnt : n ≤ t.length := by omega
  have hlen : (t.take n).length = n := by rw [List.length_take]; omega
  have q1 : ((n : Nat) : Int) / 256 = h := by omega
  have q2 : ((n : Nat) : Int) % 256 = l := by omega
  have e7 : 7 + n = n + 3 + 4 := by omega
  rw [e7]
  unfold frameL headL
  rw [hlen, q1, q2, e]
  show k :: h :: l :: c :: t.take (n + 3) = k :: h :: l :: c :: (t.take n ++ footL (t.take n)) ↔ _
  rw [List.take_add]
  constructor
  · intro z
    injection z with _ z
    injection z with _ z
    injection z with _ z
    injection z with _ z
    exact (List.append_cancel_left z).symm
  · intro z
    rw [z]
end K77
end

section
set_option Elab.async false
set_option linter.all false
set_option maxRecDepth 100000
set_option maxHeartbeats 4000000
namespace K77
open PySem L2
theorem eqvI : ∀ (a b : List Int), PyData.eqvAll (a.map PyData.int) (b.map PyData.int) = decide (a = b)
  | [], [] => by simp [PyData.eqvAll]
  | [], y :: b => by simp [PyData.eqvAll]
  | x :: a, [] => by simp [PyData.eqvAll]
  | x :: a, y :: b => by
    have h := eqvI a b
    simp only [List.map_cons, PyData.eqvAll, PyData.eqv, h, List.cons.injEq]
    by_cases c : x = y
    · subst c; simp
    · simp [c]
theorem canI : ∀ a : List Int, PyData.canLayAll0 (a.map PyData.int) = true
  | [] => by simp [PyData.canLayAll0]
  | x :: a => by
    have h := canI a
    simp only [List.map_cons, PyData.canLayAll0, PyData.canLay0, h, Bool.and_self]
theorem depI : ∀ a : List Int, PyData.depthAll (a.map PyData.int) = 0
  | [] => by simp [PyData.depthAll]
  | x :: a => by
    have h := depI a
    simp only [List.map_cons, PyData.depthAll, PyData.depth, h, Nat.max_self]
theorem shT (a : List Int) : SeqAt.shaped (.tuple (a.map PyData.int)) = true := by
  unfold SeqAt.shaped
  simp only [PyData.canLay0, canI, PyData.depth, depI]
  decide
theorem shL (a : List Int) : SeqAt.shaped (.list (a.map PyData.int)) = true := by
  unfold SeqAt.shaped
  simp only [PyData.canLay0, canI, PyData.depth, depI]
  decide
theorem dpI {K : PySem.W.Frag} {H : Hp} : ∀ a : List Int, DpAll K H (a.map V.int) (a.map PyData.int)
  | [] => .nil
  | x :: a => .cons (.int x) (dpI a)
theorem cut_mid {xs : List V} {lo hi : Int} (h0 : 0 ≤ lo) (h1 : lo ≤ hi) (h2 : hi ≤ xs.length) : cutV xs (some lo) (some hi) = (xs.drop lo.toNat).take (hi.toNat - lo.toNat) := by
  unfold cutV HT.sIx
  simp only
  rw [if_neg (by omega), if_neg (by omega), Nat.min_eq_left (by omega), Nat.min_eq_left (by omega)]
theorem cut_from {xs : List V} {lo : Int} (h0 : 0 ≤ lo) (h2 : lo ≤ xs.length) : cutV xs (some lo) none = xs.drop lo.toNat := by
  unfold cutV HT.sIx
  simp only
  rw [if_neg (by omega), Nat.min_eq_left (by omega), List.take_of_length_le]
  rw [List.length_drop]
  omega
theorem cut_to {xs : List V} {hi : Int} (h0 : 0 ≤ hi) : cutV xs none (some hi) = xs.take hi.toNat := by
  unfold cutV HT.sIx
  simp only [Nat.sub_zero, List.drop_zero]
  rw [if_neg (by omega)]
  by_cases c : hi.toNat ≤ xs.length
  · rw [Nat.min_eq_left c]
  · rw [Nat.min_eq_right (by omega), List.take_of_length_le (Nat.le_refl _), List.take_of_length_le (by omega)]
section
variable {P : Program} {w : World} {K : PySem.W.Frag} {mg : Str → Option Value} {base : Heap}
def spXored (K : PySem.W.Frag) : Sp := fun vs H Q _ => ∃ (g : Addr) (l : List Int), vs = [.ref g] ∧ SqT K H g (l.map V.int) ∧ Q (.int (xo l)) H
theorem ok_xored (T : Tx P K mg) : FnOk P w K mg base CX0 1 T.xored.f T.xored.fd ["octets"] (spXored K) := by
  refine T.xored.F.ok sc_xored (fun vs H Q E h => ?_) (fun cdv A outer s H vs Q E hr h => ?_)
  · obtain ⟨g, l, rfl, _⟩ := h
    rfl
  · obtain ⟨g, l, rfl, hg, q⟩ := h
    refine ⟨_, (pss_cons (ps_set (i := 1) sc_xored.nd rfl (by first | exact Or.inl rfl | exact Or.inr rfl) pe_int)
      (pss_cons (ps_for PassesOwn.never rfl (pi_tup (pv 0)) (pg_name (i := 2) sc_xored.nd rfl (by first | exact Or.inl rfl | exact Or.inr rfl)) (pss_one (ps_set (i := 1) sc_xored.nd rfl (by first | exact Or.inl rfl | exact Or.inr rfl) (pe_op op_xor (pv 1) (pv 2)))))
      (pss_one (ps_ret (pv 1))))), ?_⟩
    refine ⟨_, rfl, g, rfl, ⟨_, hg⟩, for_tup (xs := l.map V.int) (fun i σ H' => ∃ u, H' = H ∧ σ = [some (.ref g), some (.int ((l.take i).foldl Builtin.bitXor 0)), u]) ⟨none, rfl, rfl⟩ ?_ ?_ ?_⟩
    · rintro i σ H' hi ⟨u, rfl, rfl⟩
      exact hg
    · rintro i x σ H' hx ⟨u, rfl, rfl⟩
      obtain ⟨n, hn, rfl⟩ := map_get hx
      refine ⟨_, rfl, _, rfl, _, _, rfl, rfl, some (.int n), rfl, ?_⟩
      rw [take_snoc hn, List.foldl_append]
      rfl
    · rintro σ H' ⟨u, rfl, rfl⟩
      rw [List.length_map, List.take_length]
      exact ⟨_, rfl, q⟩
def spWeighed (K : PySem.W.Frag) : Sp := fun vs H Q _ => ∃ (g : Addr) (l : List Int), vs = [.ref g] ∧ SqT K H g (l.map V.int) ∧ l.length ≤ 1000000 ∧ ∀ H', Same H H' → Q (.int (wt l)) H'
theorem ok_weighed (T : Tx P K mg) : FnOk P w K mg base CX0 1 T.weighed.f T.weighed.fd ["octets"] (spWeighed K) := by
  refine T.weighed.F.ok sc_weighed (fun vs H Q E h => ?_) (fun cdv A outer s H vs Q E hr h => ?_)
  · obtain ⟨g, l, rfl, _⟩ := h
    rfl
  · obtain ⟨g, l, rfl, hg, hz, q⟩ := h
    refine ⟨_, (pss_one (ps_ret (pe_op op_mod (pe_callB (cr_sum rfl) (by rfl) T.n_sum PyProof.Rows.boot_sum (pa_cons (pe_lc (own := [("place", 1), ("octet", 2)]) (g := gTup K 2 (gCons (gName 1) (gCons (gName 2) (gNil)))) (tt := tYes) rfl sc_weighed.nd (pi_enumA (by rfl) T.n_enumerate (pa_cons (pv 0) pa_nil)) (blkOk_by (N := ["octets", "place", "octet"]) (sc := defScope s_weighed) (by decide +kernel)) (fun _ _ _ _ _ => (pg_tup rfl (pgs_cons (pg_name (i := 1) sc_weighed.nd rfl (by first | exact Or.inl rfl | exact Or.inr rfl)) (pgs_cons (pg_name (i := 2) sc_weighed.nd rfl (by first | exact Or.inl rfl | exact Or.inr rfl)) pgs_nil)))) (fun _ _ _ _ _ => pts_nil) (fun _ _ _ _ _ => (pe_op op_mul (pe_op op_add (pv 1) pe_int) (pv 2)))) pa_nil)) (C8.pe_gc rfl T.c_WEIGHED)))), ?_⟩
    refine ⟨_, rfl, g, _, rfl, .inr ⟨hg, fun Dd hD => lc_enumT (xs := l.map V.int) (fun i H' => Same H H' ∧ H' Dd = some (.lst (((wlist l).take i).map V.int))) ⟨same_new hD, upd_same⟩ ?_ ?_ ?_⟩⟩
    · rintro i H' hi ⟨s1, e1⟩
      exact Tk.same s1 _ _ hg
    · rintro i x Tt H' hx ⟨s1, e1⟩ hT
      obtain ⟨n, hn, rfl⟩ := map_get hx
      have hi := (List.getElem?_eq_some_iff.mp hn).1
      have s2 : Same H' (upd H' Tt (.tup [.int (i : Nat), .int n])) := same_new hT
      have e2 : upd H' Tt (.tup [.int (i : Nat), .int n]) Tt = some (.tup [.int (i : Nat), .int n]) := upd_same
      generalize upd H' Tt (.tup [.int (i : Nat), .int n]) = H2 at s2 e2 ⊢
      refine ⟨Tt, _, rfl, SqT.of e2, rfl, _, _, rfl, _, _, rfl, rfl, rfl, ?_⟩
      refine ⟨_, rfl, _, _, rfl, rfl, _, rfl, _, _, rfl, rfl, .inl ⟨by omega, by omega⟩, _, s2 _ _ e1, ?_, Same.put (s1.trans s2) hD, ?_⟩
      · rw [List.length_map, List.length_take, wlist_len, sizeLine_eq]
        omega
      · rw [upd_same, take_snoc (wlist_get hn), List.map_append]
        rfl
    · rintro H' ⟨s1, e1⟩
      rw [List.length_map, ← wlist_len l, List.take_length] at e1
      exact ⟨Dd, wlist l, rfl, SqL.of e1, _, _, rfl, rfl, (by show (0 : Int) < 65521; decide), q H' s1⟩
def spHead (K : PySem.W.Frag) : Sp := fun vs H Q _ => ∃ (k n : Int), vs = [.int k, .int n] ∧ ∀ p H', Same H H' → SqT K H' p ((headL k n).map V.int) → Q (.ref p) H'
theorem ok_head (T : Tx P K mg) (G_xored : FnOk P w K mg base CX0 1 T.xored.f T.xored.fd ["octets"] (spXored K)) : FnOk P w K mg base CX0 2 T.head_of.f T.head_of.fd ["kind", "long"] (spHead K) := by
  refine T.head_of.F.ok sc_head_of (fun vs H Q E h => ?_) (fun cdv A outer s H vs Q E hr h => ?_)
  · obtain ⟨k, n, rfl, _⟩ := h
    rfl
  · obtain ⟨k, n, rfl, q⟩ := h
    refine ⟨_, (pss_cons (ps_set (i := 2) sc_head_of.nd rfl (by first | exact Or.inl rfl | exact Or.inr rfl) (pe_tup (pa_cons (pv 0) (pa_cons (pe_op op_fdiv (pv 1) pe_int) (pa_cons (pe_op op_mod (pv 1) pe_int) pa_nil)))))
      (pss_one (ps_ret (pe_op op_catU (pv 2) (pe_tup (pa_cons (pe_call G_xored (hr.mono (by decide)) rfl T.xored.m T.xored.F.kp T.xored.b .nil pass0 (pa_cons (pv 2) pa_nil)) pa_nil)))))), ?_⟩
    refine ⟨_, rfl, _, rfl, _, _, rfl, rfl, ⟨by decide, by decide⟩, _, rfl, _, _, rfl, rfl, (by show (0 : Int) < 256; decide), (by show 3 ≤ sizeLine; decide), fun t ht => ?_⟩
    have s1 : Same H (upd H t (.tup [.int k, .int (n / 256), .int (n % 256)])) := same_new ht
    have e1 : upd H t (.tup [.int k, .int (n / 256), .int (n % 256)]) t = some (.tup [.int k, .int (n / 256), .int (n % 256)]) := upd_same
    generalize upd H t (.tup [.int k, .int (n / 256), .int (n % 256)]) = H1 at s1 e1 ⊢
    refine ⟨_, rfl, _, rfl, t, [k, n / 256, n % 256], rfl, SqT.of e1, (by show 1 ≤ sizeLine; decide), fun t2 ht2 => ?_⟩
    have s2 : Same H1 (upd H1 t2 (.tup [.int (xo [k, n / 256, n % 256])])) := same_new ht2
    have e2 : upd H1 t2 (.tup [.int (xo [k, n / 256, n % 256])]) t2 = some (.tup [.int (xo [k, n / 256, n % 256])]) := upd_same
    generalize upd H1 t2 (.tup [.int (xo [k, n / 256, n % 256])]) = H2 at s2 e2 ⊢
    exact ⟨t, t2, _, _, rfl, rfl, SqT.of (s2 _ _ e1), SqT.of e2, (by show 3 + 1 ≤ sizeLine; decide), fun p H' s3 h3 => q p H' (s1.trans (s2.trans s3)) h3⟩
def spFoot (K : PySem.W.Frag) : Sp := fun vs H Q _ => ∃ (g : Addr) (l : List Int), vs = [.ref g] ∧ SqT K H g (l.map V.int) ∧ l.length ≤ 1000000 ∧ ∀ p H', Same H H' → SqT K H' p ((footL l).map V.int) → Q (.ref p) H'
theorem ok_foot (T : Tx P K mg) (G_xored : FnOk P w K mg base CX0 1 T.xored.f T.xored.fd ["octets"] (spXored K)) (G_weighed : FnOk P w K mg base CX0 1 T.weighed.f T.weighed.fd ["octets"] (spWeighed K)) : FnOk P w K mg base CX0 2 T.foot_of.f T.foot_of.fd ["payload"] (spFoot K) := by
  refine T.foot_of.F.ok sc_foot_of (fun vs H Q E h => ?_) (fun cdv A outer s H vs Q E hr h => ?_)
  · obtain ⟨g, l, rfl, _⟩ := h
    rfl
  · obtain ⟨g, l, rfl, hg, hz, q⟩ := h
    refine ⟨_, (pss_cons (ps_set (i := 1) sc_foot_of.nd rfl (by first | exact Or.inl rfl | exact Or.inr rfl) (pe_call G_weighed (hr.mono (by decide)) rfl T.weighed.m T.weighed.F.kp T.weighed.b .nil pass0 (pa_cons (pv 0) pa_nil)))
      (pss_one (ps_ret (pe_tup (pa_cons (pe_call G_xored (hr.mono (by decide)) rfl T.xored.m T.xored.F.kp T.xored.b .nil pass0 (pa_cons (pv 0) pa_nil)) (pa_cons (pe_op op_fdiv (pv 1) pe_int) (pa_cons (pe_op op_mod (pv 1) pe_int) pa_nil))))))), ?_⟩
    refine ⟨_, rfl, g, l, rfl, hg, hz, fun H1 s1 => ?_⟩
    refine ⟨_, rfl, g, l, rfl, Tk.same s1 _ _ hg, _, rfl, _, _, rfl, rfl, ⟨by decide, by decide⟩, _, rfl, _, _, rfl, rfl, (by show (0 : Int) < 256; decide), (by show 3 ≤ sizeLine; decide), fun p hp => q p _ (s1.trans (same_new hp)) (SqT.of upd_same)⟩
def spFrame (K : PySem.W.Frag) : Sp := fun vs H Q _ => ∃ (k : Int) (g : Addr) (l : List Int), vs = [.int k, .ref g] ∧ SqT K H g (l.map V.int) ∧ l.length ≤ 1000000 ∧ ∀ p H', Same H H' → SqT K H' p ((frameL k l).map V.int) → Q (.ref p) H'
theorem ok_frame (T : Tx P K mg) (G_head_of : FnOk P w K mg base CX0 2 T.head_of.f T.head_of.fd ["kind", "long"] (spHead K)) (G_foot_of : FnOk P w K mg base CX0 2 T.foot_of.f T.foot_of.fd ["payload"] (spFoot K)) : FnOk P w K mg base CX0 3 T.frame.f T.frame.fd ["kind", "payload"] (spFrame K) := by
  refine T.frame.F.ok sc_frame (fun vs H Q E h => ?_) (fun cdv A outer s H vs Q E hr h => ?_)
  · obtain ⟨k, g, l, rfl, _⟩ := h
    rfl
  · obtain ⟨k, g, l, rfl, hg, hz, q⟩ := h
    refine ⟨_, (pss_one (ps_ret (pe_op op_catU (pe_op op_catU (pe_call G_head_of (hr.mono (by decide)) rfl T.head_of.m T.head_of.F.kp T.head_of.b .nil pass0 (pa_cons (pv 0) (pa_cons (pe_callB call_len_seq (by rfl) T.n_len PySem.boot_len (pa_cons (pv 1) pa_nil)) pa_nil))) (pe_tupleOf rfl T.n_tuple (pv 1))) (pe_call G_foot_of (hr.mono (by decide)) rfl T.foot_of.m T.foot_of.F.kp T.foot_of.b .nil pass0 (pa_cons (pv 1) pa_nil))))), ?_⟩
    refine ⟨_, rfl, _, rfl, g, _, rfl, .inr hg, k, _, rfl, fun p1 H1 s1 h1 => ?_⟩
    rw [List.length_map] at h1
    refine ⟨_, rfl, .inr ⟨g, _, rfl, Tk.same s1 _ _ hg, p1, g, _, _, rfl, rfl, h1, Tk.same s1 _ _ hg, ?_, fun p2 H2 s2 h2 => ?_⟩⟩
    · rw [List.length_map, List.length_map, sizeLine_eq]
      show 4 + _ ≤ _
      omega
    · refine ⟨_, rfl, g, l, rfl, Tk.same (s1.trans s2) _ _ hg, hz, fun p3 H3 s3 h3 => ⟨p2, p3, _, _, rfl, rfl, Tk.same s3 _ _ h2, h3, ?_, fun p4 H4 s4 h4 => q p4 H4 (s1.trans (s2.trans (s3.trans s4))) ?_⟩⟩
      · rw [List.length_append, List.length_map, List.length_map, List.length_map, sizeLine_eq]
        show 4 + _ + 3 ≤ _
        omega
      · have e : (frameL k l).map V.int = (headL k l.length).map V.int ++ l.map V.int ++ (footL l).map V.int := by
          unfold frameL
          rw [List.map_append, List.map_append]
        rw [e]
        exact h4
end
end K77
end

section
set_option Elab.async false
set_option linter.all false
set_option maxRecDepth 100000
set_option maxHeartbeats 4000000
namespace K77
open PySem L2
theorem at_2 {α : Type} (l : List α) (u v x : α) : atI (u :: v :: x :: l) 2 = some x := by
  unfold atI ixN
  rw [if_pos (by decide), if_pos (by simp only [List.length_cons]; omega)]
  rfl
theorem at_3 {α : Type} (l : List α) (u v x y : α) : atI (u :: v :: x :: y :: l) 3 = some y := by
  unfold atI ixN
  rw [if_pos (by decide), if_pos (by simp only [List.length_cons]; omega)]
  rfl
theorem vne_ne {x y : Int} (h : (!decide (V.int x = V.int y)) = true) : x ≠ y := fun z => by
  rw [z] at h
  simp at h
theorem vne_eq {x y : Int} (h : ¬ (!decide (V.int x = V.int y)) = true) : x = y := by
  have : decide (V.int x = V.int y) = true := by
    cases e : decide (V.int x = V.int y) with
    | true => rfl
    | false => rw [e] at h; exact absurd rfl h
  exact vint_eq this
section
variable {P : Program} {w : World} {K : PySem.W.Frag} {mg : Str → Option Value} {base : Heap}
/-- a tuple, or a list that stands there -/
def Sq (K : PySem.W.Frag) (H : Hp) (g : Addr) (xs : List V) : Prop := SqT K H g xs ∨ H g = some (.lst xs)
theorem Sq.same {H H' : Hp} {g : Addr} {xs : List V} (h : Sq K H g xs) (s : Same H H') : Sq K H' g xs := h.imp (fun h => Tk.same s _ _ h) (fun h => s _ _ h)
theorem Sq.any {H : Hp} {g : Addr} {xs : List V} (h : Sq K H g xs) : SqL K H g xs ∨ SqT K H g xs := h.elim .inr fun h => .inl (SqL.of h)
def spFramed (K : PySem.W.Frag) : Sp := fun vs H Q _ => ∃ (k : Int) (g : Addr) (l : List Int), vs = [.int k, .ref g] ∧ Sq K H g (l.map V.int) ∧ l.length ≤ 1000000 ∧ ∀ p H', Same H H' → H p = none → H' p = some (.lst ((frameL k l).map V.int)) → Q (.ref p) H'
theorem ok_framed (T : Tx P K mg) : FnOk P w K mg base CX0 1 T._law_framed.f T._law_framed.fd ["kind", "payload"] (spFramed K) := by
  refine T._law_framed.F.ok sc__law_framed (fun vs H Q E h => ?_) (fun cdv A outer s H vs Q E hr h => ?_)
  · obtain ⟨k, g, l, rfl, _⟩ := h
    rfl
  · obtain ⟨k, g, l, rfl, hg, hz, q⟩ := h
    have hlen : (l.map V.int).length = l.length := List.length_map ..
    refine ⟨_, (pss_cons (ps_set (i := 2) sc__law_framed.nd rfl (by first | exact Or.inl rfl | exact Or.inr rfl) (pe_lst (pa_cons (pv 0) (pa_cons (pe_op op_fdiv (pe_callB call_len_seq (by rfl) T.n_len PySem.boot_len (pa_cons (pv 1) pa_nil)) pe_int) (pa_cons (pe_op op_mod (pe_callB call_len_seq (by rfl) T.n_len PySem.boot_len (pa_cons (pv 1) pa_nil)) pe_int) pa_nil)))))
      (pss_cons (ps_asg (pe_tup (pa_cons pe_int (pa_cons pe_int pa_nil))) (pg_tup rfl (pgs_cons (pg_name (i := 3) sc__law_framed.nd rfl (by first | exact Or.inl rfl | exact Or.inr rfl)) (pgs_cons (pg_name (i := 4) sc__law_framed.nd rfl (by first | exact Or.inl rfl | exact Or.inr rfl)) pgs_nil))))
      (pss_cons (ps_for PassesOwn.never rfl (pi_enumA (by rfl) T.n_enumerate (pa_cons (pv 1) pa_nil)) (pg_tup rfl (pgs_cons (pg_name (i := 5) sc__law_framed.nd rfl (by first | exact Or.inl rfl | exact Or.inr rfl)) (pgs_cons (pg_name (i := 6) sc__law_framed.nd rfl (by first | exact Or.inl rfl | exact Or.inr rfl)) pgs_nil))) (pss_one (ps_par (i := 3) (j := 4) rfl sc__law_framed.nd rfl rfl (by decide) rfl rfl (pa_cons (pe_op op_xor (pv 3) (pv 6)) (pa_cons (pe_op op_mod (pe_op op_add (pv 4) (pe_op op_mul (pe_op op_add (pv 5) pe_int) (pv 6))) pe_int) pa_nil)) (by rfl))))
      (pss_one (ps_ret (pe_op op_cat (pe_op op_cat (pe_op op_cat (pv 2) (pe_lst (pa_cons (pe_op op_xor (pe_op op_xor (pe_ix ix_list (pv 2) pe_int (fun _ _ => rfl)) (pe_ix ix_list (pv 2) pe_int (fun _ _ => rfl))) (pe_ix ix_list (pv 2) pe_int (fun _ _ => rfl))) pa_nil))) (pe_callTy call_list_of (by rfl) T.n_list PyProof.Rows.boot_list (pa_cons (pv 1) pa_nil))) (pe_lst (pa_cons (pv 3) (pa_cons (pe_op op_fdiv (pv 4) pe_int) (pa_cons (pe_op op_mod (pv 4) pe_int) pa_nil)))))))))), ?_⟩
    refine ⟨_, rfl, _, rfl, g, _, rfl, hg.any, _, _, rfl, rfl, ⟨by decide, by decide⟩, _, rfl, g, _, rfl, hg.any, _, _, rfl, rfl, (by show (0 : Int) < 256; decide), (by show 3 ≤ sizeLine; decide), fun hd hhd => ?_⟩
    rw [hlen]
    have s1 : Same H (upd H hd (.lst [.int k, .int ((l.length : Int) / 256), .int ((l.length : Int) % 256)])) := same_new hhd
    have e1 : upd H hd (.lst [.int k, .int ((l.length : Int) / 256), .int ((l.length : Int) % 256)]) hd = some (.lst [.int k, .int ((l.length : Int) / 256), .int ((l.length : Int) % 256)]) := upd_same
    generalize upd H hd (.lst [.int k, .int ((l.length : Int) / 256), .int ((l.length : Int) % 256)]) = H1 at s1 e1 ⊢
    refine ⟨(by show 2 ≤ sizeLine; decide), fun t0 ht0 => ?_⟩
    have s2 : Same H1 (upd H1 t0 (.tup [.int 0, .int 0])) := same_new ht0
    have e2 : upd H1 t0 (.tup [.int 0, .int 0]) t0 = some (.tup [.int 0, .int 0]) := upd_same
    generalize upd H1 t0 (.tup [.int 0, .int 0]) = H2 at s2 e2 ⊢
    refine ⟨t0, _, rfl, SqT.of e2, rfl, _, _, rfl, _, _, rfl, rfl, ?_⟩
    have fin : ∀ (H' : Hp) (u v : Option V), Same H2 H' → (tRet (tOp rCat (tOp rCat (tOp rCat (tVar 2) (tLst (tCons (tOp (rI0 fun i j => .int (Builtin.bitXor i j)) (tOp (rI0 fun i j => .int (Builtin.bitXor i j)) (tOp (rIxL K) (tVar 2) (tC (.int 0))) (tOp (rIxL K) (tVar 2) (tC (.int 1)))) (tOp (rIxL K) (tVar 2) (tC (.int 2)))) tNil)))
        (tCB (fun xs H Q => ∃ p ys, xs = [V.ref p] ∧ (SqL K H p ys ∨ SqT K H p ys) ∧ ∀ (l : Addr), H l = none → Q (V.ref l) (upd H l (HO.lst ys))) (tCons (tVar 1) tNil)))
        (tLst (tCons (tVar 3) (tCons (tOp (rI CDiv fun i j => .int (i / j)) (tVar 4) (tC (.int 256))) (tCons (tOp (rI (fun _ j => 0 < j) fun i j => .int (i % j)) (tVar 4) (tC (.int 256))) tNil))))))
        { nx := fun x H' => Q V.non H', rt := Q } [some (.int k), some (.ref g), some (.ref hd), some (.int (l.foldl Builtin.bitXor 0)), some (.int (wt l)), u, v] H' := fun H3 u v s3 => by
      have e13 := s3 _ _ (s2 _ _ e1)
      have hg3 := hg.same (s1.trans (s2.trans s3))
      refine ⟨_, rfl, _, rfl, hd, _, _, _, rfl, rfl, SqL.of e13, at_0 _ _, _, rfl, hd, _, _, _, rfl, rfl, SqL.of e13, at_1 _ _ _, _, _, rfl, rfl, _, rfl, hd, _, _, _, rfl, rfl, SqL.of e13, at_2 _ _ _ _, _, _, rfl, rfl, (by show 1 ≤ sizeLine; decide), fun a1 ha1 => ?_⟩
      have s4 : Same H3 (upd H3 a1 (.lst [.int (Builtin.bitXor (Builtin.bitXor k ((l.length : Int) / 256)) ((l.length : Int) % 256))])) := same_new ha1
      have e4 : upd H3 a1 (.lst [.int (Builtin.bitXor (Builtin.bitXor k ((l.length : Int) / 256)) ((l.length : Int) % 256))]) a1 = some (.lst [.int (xo [k, (l.length : Int) / 256, (l.length : Int) % 256])]) := by
        rw [upd_same]
        show _ = some (HO.lst [V.int (Builtin.bitXor (Builtin.bitXor (Builtin.bitXor 0 k) _) _)])
        rw [xor0]
      generalize upd H3 a1 (.lst [.int (Builtin.bitXor (Builtin.bitXor k ((l.length : Int) / 256)) ((l.length : Int) % 256))]) = H4 at s4 e4 ⊢
      refine ⟨hd, a1, _, _, rfl, rfl, s4 _ _ e13, e4, (by show 3 + 1 ≤ sizeLine; decide), fun a2 ha2 => ?_⟩
      have s5 : Same H4 (upd H4 a2 (.lst ((headL k l.length).map V.int))) := same_new ha2
      have e5 : upd H4 a2 (.lst ((headL k l.length).map V.int)) a2 = some (.lst ((headL k l.length).map V.int)) := upd_same
      show tCB _ _ _ (upd H4 a2 (.lst ((headL k l.length).map V.int))) _
      generalize upd H4 a2 (.lst ((headL k l.length).map V.int)) = H5 at s5 e5 ⊢
      refine ⟨_, rfl, g, _, rfl, (hg3.same (s4.trans s5)).any, fun a3 ha3 => ?_⟩
      have s6 : Same H5 (upd H5 a3 (.lst (l.map V.int))) := same_new ha3
      have e6 : upd H5 a3 (.lst (l.map V.int)) a3 = some (.lst (l.map V.int)) := upd_same
      generalize upd H5 a3 (.lst (l.map V.int)) = H6 at s6 e6 ⊢
      refine ⟨a2, a3, _, _, rfl, rfl, s6 _ _ e5, e6, by rw [List.length_map, List.length_map, sizeLine_eq]; show 4 + _ ≤ _; omega, fun a4 ha4 => ?_⟩
      have s7 : Same H6 (upd H6 a4 (.lst ((headL k l.length).map V.int ++ l.map V.int))) := same_new ha4
      have e7 : upd H6 a4 (.lst ((headL k l.length).map V.int ++ l.map V.int)) a4 = some (.lst ((headL k l.length).map V.int ++ l.map V.int)) := upd_same
      generalize upd H6 a4 (.lst ((headL k l.length).map V.int ++ l.map V.int)) = H7 at s7 e7 ⊢
      refine ⟨_, rfl, _, rfl, _, _, rfl, rfl, ⟨by decide, by decide⟩, _, rfl, _, _, rfl, rfl, (by show (0 : Int) < 256; decide), (by show 3 ≤ sizeLine; decide), fun a5 ha5 => ?_⟩
      have s8 : Same H7 (upd H7 a5 (.lst ((footL l).map V.int))) := same_new ha5
      have e8 : upd H7 a5 (.lst ((footL l).map V.int)) a5 = some (.lst ((footL l).map V.int)) := upd_same
      refine ⟨a4, a5, _, (footL l).map V.int, rfl, rfl, s8 _ _ e7, e8, by rw [List.length_append, List.length_map, List.length_map, List.length_map, sizeLine_eq]; show 4 + _ + 3 ≤ _; omega, fun p hp => ?_⟩
      have sm := s1.trans (s2.trans (s3.trans (s4.trans (s5.trans (s6.trans (s7.trans s8))))))
      refine q p _ (sm.trans (same_new hp)) (sm.free hp) ?_
      refine upd_same.trans ?_
      unfold frameL
      rw [List.map_append, List.map_append]
    refine ⟨_, rfl, g, l.map V.int, rfl, ?_⟩
    rcases hg with hg | hg
    · refine .inr ⟨Tk.same (s1.trans s2) _ _ hg, for_enumT (xs := l.map V.int) (fun i σ H' => ∃ u v, σ = [some (.int k), some (.ref g), some (.ref hd), some (.int ((l.take i).foldl Builtin.bitXor 0)), some (.int (((wlist l).take i).sum % 65521)), u, v] ∧ Same H2 H') ⟨none, none, rfl, Same.refl _⟩ ?_ ?_ ?_⟩
      · rintro i σ H' hi ⟨u, v, rfl, s3⟩
        exact Tk.same (s1.trans (s2.trans s3)) _ _ hg
      · rintro i x Tt σ H' hx ⟨u, v, rfl, s3⟩ hT
        obtain ⟨n, hn, rfl⟩ := map_get hx
        have hi := (List.getElem?_eq_some_iff.mp hn).1
        have s4 : Same H' (upd H' Tt (.tup [.int (i : Nat), .int n])) := same_new hT
        have e4 : upd H' Tt (.tup [.int (i : Nat), .int n]) Tt = some (.tup [.int (i : Nat), .int n]) := upd_same
        generalize upd H' Tt (.tup [.int (i : Nat), .int n]) = H4 at s4 e4 ⊢
        refine ⟨Tt, _, rfl, SqT.of e4, rfl, _, _, rfl, _, _, rfl, rfl, ?_⟩
        refine ⟨_, rfl, _, rfl, _, _, rfl, rfl, _, rfl, _, rfl, _, _, rfl, rfl, _, rfl, _, _, rfl, rfl, .inl ⟨by omega, by omega⟩, _, _, rfl, rfl, _, _, rfl, rfl, (by show (0 : Int) < 65521; decide), _, _, rfl, some (.int (i : Nat)), some (.int n), ?_, s3.trans s4⟩
        rw [take_snoc hn, take_snoc (wlist_get hn), List.foldl_append, List.sum_append, List.sum_singleton, ← Int.emod_add_emod]
        rfl
      · rintro σ H' ⟨u, v, rfl, s3⟩
        rw [List.length_map, List.take_length, ← wlist_len l, List.take_length]
        exact fin H' u v s3
    · refine .inl ⟨SqL.of ((s1.trans s2) _ _ hg), for_enumL (xs := l.map V.int) (fun i σ H' => ∃ u v, σ = [some (.int k), some (.ref g), some (.ref hd), some (.int ((l.take i).foldl Builtin.bitXor 0)), some (.int (((wlist l).take i).sum % 65521)), u, v] ∧ Same H2 H') ⟨none, none, rfl, Same.refl _⟩ ?_ ?_ ?_⟩
      · rintro i σ H' hi ⟨u, v, rfl, s3⟩
        exact SqL.of ((s1.trans (s2.trans s3)) _ _ hg)
      · rintro i x Tt σ H' hx ⟨u, v, rfl, s3⟩ hT
        obtain ⟨n, hn, rfl⟩ := map_get hx
        have hi := (List.getElem?_eq_some_iff.mp hn).1
        have s4 : Same H' (upd H' Tt (.tup [.int (i : Nat), .int n])) := same_new hT
        have e4 : upd H' Tt (.tup [.int (i : Nat), .int n]) Tt = some (.tup [.int (i : Nat), .int n]) := upd_same
        generalize upd H' Tt (.tup [.int (i : Nat), .int n]) = H4 at s4 e4 ⊢
        refine ⟨Tt, _, rfl, SqT.of e4, rfl, _, _, rfl, _, _, rfl, rfl, ?_⟩
        refine ⟨_, rfl, _, rfl, _, _, rfl, rfl, _, rfl, _, rfl, _, _, rfl, rfl, _, rfl, _, _, rfl, rfl, .inl ⟨by omega, by omega⟩, _, _, rfl, rfl, _, _, rfl, rfl, (by show (0 : Int) < 65521; decide), _, _, rfl, some (.int (i : Nat)), some (.int n), ?_, s3.trans s4⟩
        rw [take_snoc hn, take_snoc (wlist_get hn), List.foldl_append, List.sum_append, List.sum_singleton, ← Int.emod_add_emod]
        rfl
      · rintro σ H' ⟨u, v, rfl, s3⟩
        rw [List.length_map, List.take_length, ← wlist_len l, List.take_length]
        exact fin H' u v s3
end
end K77
end

section
set_option Elab.async false
set_option linter.all false
set_option maxRecDepth 100000
set_option maxHeartbeats 4000000
namespace K77
open PySem L2
def frD (q : Int × List Int) : D := .tup [.int q.1, tI q.2]
def tlS (b : Bool) : Str := if b then "torn" else "changed"
def tailD (n : Nat) : Option Bool → D
  | none => .non
  | some b => .tup [.str (tlS b), .int (n : Nat)]
def frDD (r : List (Int × List Int) × Option Bool) : D := .tup [.tup (r.1.map frD), tailD r.1.length r.2]
theorem vI_take (l : List Int) (n : Nat) : (l.map V.int).take n = (l.take n).map V.int := by rw [List.map_take]
theorem vI_drop (l : List Int) (n : Nat) : (l.map V.int).drop n = (l.drop n).map V.int := by rw [List.map_drop]
section
variable {P : Program} {w : World} {K : PySem.W.Frag} {mg : Str → Option Value} {base : Heap}
def spFramesOf (K : PySem.W.Frag) : Sp := fun vs H Q _ => ∃ (g : Addr) (o : List Int), vs = [.ref g] ∧ SqT K H g (o.map V.int) ∧ Oct o ∧ o.length ≤ 1000000 ∧ ∀ v H', Same H H' → Im K H' v (frDD (frAll o)) → Q v H'
theorem ok_framesof (T : Tx P K mg) (G_head_of : FnOk P w K mg base CX0 2 T.head_of.f T.head_of.fd ["kind", "long"] (spHead K)) (G_foot_of : FnOk P w K mg base CX0 2 T.foot_of.f T.foot_of.fd ["payload"] (spFoot K)) :
    FnOk P w K mg base CX0 3 T.frames_of.f T.frames_of.fd ["octets"] (spFramesOf K) := by
  refine T.frames_of.F.ok sc_frames_of (fun vs H Q E h => ?_) (fun cdv A outer s H vs Q E hr h => ?_)
  · obtain ⟨g, o, rfl, _⟩ := h
    rfl
  · obtain ⟨g, o, rfl, hg, ho, hz, q⟩ := h
    have hlen : (o.map V.int).length = o.length := List.length_map ..
    have ret : ∀ (acc : List (Int × List Int)) (b : Bool) (vs : List V) (H2 : Hp), frAll o = (acc, some b) → Same H H2 → ImL K H2 vs (acc.map frD) → ∀ t1, H2 t1 = none → ∀ t2, upd H2 t1 (.tup vs) t2 = none → ∀ t3, upd (upd H2 t1 (.tup vs)) t2 (.tup [.str (tlS b), .int (vs.length : Nat)]) t3 = none →
        Q (.ref t3) (upd (upd (upd H2 t1 (.tup vs)) t2 (.tup [.str (tlS b), .int (vs.length : Nat)])) t3 (.tup [.ref t1, .ref t2])) := fun acc b vs H2 e s2 i2 t1 h1 t2 h2 t3 h3 => by
      have s3 : Same H2 (upd H2 t1 (.tup vs)) := same_new h1
      have e3 : upd H2 t1 (.tup vs) t1 = some (.tup vs) := upd_same
      generalize upd H2 t1 (.tup vs) = H3 at s3 e3 h2 h3 ⊢
      have s4 : Same H3 (upd H3 t2 (.tup [.str (tlS b), .int (vs.length : Nat)])) := same_new h2
      have e4 : upd H3 t2 (.tup [.str (tlS b), .int (vs.length : Nat)]) t2 = some (.tup [.str (tlS b), .int (vs.length : Nat)]) := upd_same
      generalize upd H3 t2 (.tup [.str (tlS b), .int (vs.length : Nat)]) = H4 at s4 e4 h3 ⊢
      have s5 : Same H4 (upd H4 t3 (.tup [.ref t1, .ref t2])) := same_new h3
      refine q _ _ (s2.trans (s3.trans (s4.trans s5))) ?_
      rw [e]
      have hl := i2.len
      rw [List.length_map] at hl
      refine .tup (SqT.of upd_same) (.cons (.tup (SqT.of (s5 _ _ (s4 _ _ e3))) (i2.mono (Tk.same (s3.trans (s4.trans s5))))) (.cons (.tup (SqT.of (s5 _ _ e4)) (.cons (.str _) (.cons ?_ .nil))) .nil))
      rw [hl]
      exact .int _
    have hu64 := hu64_of hr
    refine ⟨_, (pss_cons (ps_par3 (i := 1) (j := 2) (l := 0) rfl sc_frames_of.nd rfl rfl rfl (by decide) (by decide) (by decide) rfl rfl rfl (pa_cons (pe_lst pa_nil) (pa_cons pe_int (pa_cons (pe_tupleOf rfl T.n_tuple (pv 0)) pa_nil))) (by rfl))
      (pss_cons (ps_while PassesOwn.never (pt_cmpR op_lt (pv 2) (pe_callB call_len_seq (by rfl) T.n_len PySem.boot_len (pa_cons (pv 0) pa_nil)) (nomark _)) (pss_cons (ps_if (pt_cmpR op_lt (pe_op op_sub (pe_callB call_len_seq (by rfl) T.n_len PySem.boot_len (pa_cons (pv 0) pa_nil)) (pv 2)) (C8.pe_gc rfl T.c_HEAD) (nomark _)) (pss_one (ps_ret (pe_tup (pa_cons (pe_tupleOf rfl T.n_tuple (pv 1)) (pa_cons (pe_tup (pa_cons pe_str (pa_cons (pe_callB call_len_seq (by rfl) T.n_len PySem.boot_len (pa_cons (pv 1) pa_nil)) pa_nil))) pa_nil))))) pss_nil)
      (pss_cons (ps_asg (pe_slice sl_tupU (pv 0) (po_some (pv 2)) (po_some (pe_op op_add (pv 2) (C8.pe_gc rfl T.c_HEAD)))) (pg_tup rfl (pgs_cons (pg_name (i := 3) sc_frames_of.nd rfl (by first | exact Or.inl rfl | exact Or.inr rfl)) (pgs_cons (pg_name (i := 4) sc_frames_of.nd rfl (by first | exact Or.inl rfl | exact Or.inr rfl)) (pgs_cons (pg_name (i := 5) sc_frames_of.nd rfl (by first | exact Or.inl rfl | exact Or.inr rfl)) (pgs_cons (pg_name (i := 6) sc_frames_of.nd rfl (by first | exact Or.inl rfl | exact Or.inr rfl)) pgs_nil))))))
      (pss_cons (ps_set (i := 7) sc_frames_of.nd rfl (by first | exact Or.inl rfl | exact Or.inr rfl) (pe_op op_add (pe_op op_mul (pv 4) pe_int) (pv 5)))
      (pss_cons (ps_if (pt_cmpR op_ne (pe_ix ix_tup (pe_call G_head_of (hr.mono (by decide)) rfl T.head_of.m T.head_of.F.kp T.head_of.b .nil pass0 (pa_cons (pv 3) (pa_cons (pv 7) pa_nil))) pe_int (fun _ _ => rfl)) (pv 6) (nomark _)) (pss_one (ps_ret (pe_tup (pa_cons (pe_tupleOf rfl T.n_tuple (pv 1)) (pa_cons (pe_tup (pa_cons pe_str (pa_cons (pe_callB call_len_seq (by rfl) T.n_len PySem.boot_len (pa_cons (pv 1) pa_nil)) pa_nil))) pa_nil))))) pss_nil)
      (pss_cons (ps_set (i := 8) sc_frames_of.nd rfl (by first | exact Or.inl rfl | exact Or.inr rfl) (pe_op op_add (pe_op op_add (pe_op op_add (pv 2) (C8.pe_gc rfl T.c_HEAD)) (pv 7)) (C8.pe_gc rfl T.c_FOOT)))
      (pss_cons (ps_if (pt_cmpR op_gt (pv 8) (pe_callB call_len_seq (by rfl) T.n_len PySem.boot_len (pa_cons (pv 0) pa_nil)) (nomark _)) (pss_one (ps_ret (pe_tup (pa_cons (pe_tupleOf rfl T.n_tuple (pv 1)) (pa_cons (pe_tup (pa_cons pe_str (pa_cons (pe_callB call_len_seq (by rfl) T.n_len PySem.boot_len (pa_cons (pv 1) pa_nil)) pa_nil))) pa_nil))))) pss_nil)
      (pss_cons (ps_set (i := 9) sc_frames_of.nd rfl (by first | exact Or.inl rfl | exact Or.inr rfl) (pe_slice sl_tupU (pv 0) (po_some (pe_op op_add (pv 2) (C8.pe_gc rfl T.c_HEAD))) (po_some (pe_op op_add (pe_op op_add (pv 2) (C8.pe_gc rfl T.c_HEAD)) (pv 7)))))
      (pss_cons (ps_if (pt_cmpR (op_neD hu64) (pe_call G_foot_of (hr.mono (by decide)) rfl T.foot_of.m T.foot_of.F.kp T.foot_of.b .nil pass0 (pa_cons (pv 9) pa_nil)) (pe_slice sl_tupU (pv 0) (po_some (pe_op op_sub (pv 8) (C8.pe_gc rfl T.c_FOOT))) (po_some (pv 8))) (nomark _)) (pss_one (ps_ret (pe_tup (pa_cons (pe_tupleOf rfl T.n_tuple (pv 1)) (pa_cons (pe_tup (pa_cons pe_str (pa_cons (pe_callB call_len_seq (by rfl) T.n_len PySem.boot_len (pa_cons (pv 1) pa_nil)) pa_nil))) pa_nil))))) pss_nil)
      (pss_cons (ps_expr (pe_bm PySem.F.plainAttrs_list PySem.F.slot_list_append PySem.F.type_list_append mt_append (pv 1) (pa_cons (pe_tup (pa_cons (pv 3) (pa_cons (pv 9) pa_nil))) pa_nil)))
      (pss_one (ps_set (i := 2) sc_frames_of.nd rfl (by first | exact Or.inl rfl | exact Or.inr rfl) (pv 8)))))))))))))
      (pss_one (ps_ret (pe_tup (pa_cons (pe_tupleOf rfl T.n_tuple (pv 1)) (pa_cons pe_non pa_nil))))))), ?_⟩
    refine ⟨Nat.zero_le _, fun r hr => ?_⟩
    have s1 : Same H (upd H r (.lst [])) := same_new hr
    have e1 : upd H r (.lst []) r = some (.lst []) := upd_same
    generalize upd H r (.lst []) = H1 at s1 e1 ⊢
    refine ⟨_, rfl, .inr ⟨g, _, rfl, Tk.same s1 _ _ hg, _, _, _, rfl, ?_⟩⟩
    refine ⟨fun m σ H' => ∃ (s : Nat) (acc : List (Int × List Int)) (vs : List V) (u3 u4 u5 u6 u7 u8 u9 : Option V), σ = [some (.ref g), some (.ref r), some (.int (s : Nat)), u3, u4, u5, u6, u7, u8, u9] ∧ Same H H' ∧ H' r = some (.lst vs) ∧ ImL K H' vs (acc.map frD) ∧ s ≤ o.length ∧ acc.length ≤ s ∧ o.length < s + m ∧ frR o m s acc = frAll o,
      ⟨o.length + 1, 0, [], [], none, none, none, none, none, none, none, rfl, s1, e1, .nil, Nat.zero_le _, Nat.le_refl _, by omega, rfl⟩, ?_⟩
    rintro m σ H2 ⟨s, acc, vs, u3, u4, u5, u6, u7, u8, u9, rfl, s2, e2, i2, hs, has, hm, er⟩
    have hg2 := Tk.same s2 _ _ hg
    have hvl := i2.len
    rw [List.length_map] at hvl
    refine ⟨_, rfl, _, rfl, g, _, rfl, .inr hg2, _, _, rfl, rfl, _, rfl, ?_⟩
    rw [hlen]
    obtain ⟨f, rfl⟩ : ∃ f, m = f + 1 := ⟨m - 1, by omega⟩
    refine ite2 (fun c => ?_) (fun c => ?_)
    · have hlt : s < o.length := by
        have := of_decide_eq_true c
        omega
      have hnle : ¬ o.length ≤ s := by omega
      refine ⟨fun σ' H' => ∃ (s : Nat) (acc : List (Int × List Int)) (vs : List V) (u3 u4 u5 u6 u7 u8 u9 : Option V), σ' = [some (.ref g), some (.ref r), some (.int (s : Nat)), u3, u4, u5, u6, u7, u8, u9] ∧ Same H H' ∧ H' r = some (.lst vs) ∧ ImL K H' vs (acc.map frD) ∧ s ≤ o.length ∧ acc.length ≤ s ∧ o.length < s + f ∧ frR o f s acc = frAll o,
        fun σ' H' h => ⟨f, Nat.lt_succ_self _, h⟩, ?_⟩
      refine ⟨_, rfl, g, _, rfl, .inr hg2, _, rfl, _, _, rfl, rfl, _, _, rfl, rfl, _, rfl, ?_⟩
      rw [hlen]
      refine ite2 (fun c1 => ?_) (fun c1 => ?_)
      · have hsh : (o.drop s).length < 4 := by
          have := of_decide_eq_true c1
          rw [List.length_drop]
          omega
        rw [frR_stop hnle (frS_short hsh)] at er
        exact ⟨_, rfl, .inl ⟨r, vs, rfl, SqL.of e2, fun t1 h1 => ⟨_, rfl, r, vs, rfl, .inl (SqL.of (same_new h1 _ _ e2)), (by show 2 ≤ sizeLine; decide), fun t2 h2 => ⟨(by show 2 ≤ sizeLine; decide), ret acc true vs H2 er.symm s2 i2 t1 h1 t2 h2⟩⟩⟩⟩
      · have h4 : 4 ≤ (o.drop s).length := by
          have : ¬ (((o.length : Nat) : Int) - (s : Nat) < 4) := fun z => c1 (decide_eq_true z)
          rw [List.length_drop]
          omega
        obtain ⟨k, hh, l, cc, t, et⟩ := four h4
        have hol := List.length_drop (l := o) (i := s)
        rw [et] at hol
        simp only [List.length_cons] at hol
        have hoc : Oct (k :: hh :: l :: cc :: t) := by rw [← et]; exact ho.drop s
        have ohh := hoc hh (by simp)
        have ol := hoc l (by simp)
        have e4d : o.drop (s + 4) = t := by
          have : o.drop (s + 4) = (o.drop s).drop 4 := by rw [List.drop_drop]
          rw [this, et]
          rfl
        refine ⟨_, rfl, _, rfl, _, rfl, _, rfl, _, _, rfl, rfl, _, rfl, g, _, rfl, hg2, fun p4 H4 s4 h4' => ?_⟩
        have ec : cutV (o.map V.int) (some (s : Nat)) (some ((s : Nat) + 4)) = [.int k, .int hh, .int l, .int cc] := by
          rw [cut_mid (by omega) (by omega) (by rw [hlen]; omega), Int.toNat_natCast, vI_drop, et]
          have : (((s : Nat) : Int) + 4).toNat - s = 4 := by omega
          rw [this]
          rfl
        rw [ec] at h4'
        refine ⟨p4, _, rfl, h4', rfl, _, _, rfl, _, _, rfl, _, _, rfl, _, _, rfl, rfl, ?_⟩
        refine ⟨_, rfl, _, _, rfl, rfl, .inr ⟨by decide, by decide⟩, _, rfl, _, _, rfl, rfl, ?_⟩
        have ed : (hh * 256 + l) / 256 = hh := by omega
        have em : (hh * 256 + l) % 256 = l := by omega
        have e256 : 256 * hh + l = hh * 256 + l := by omega
        refine ⟨_, rfl, _, rfl, k, hh * 256 + l, rfl, fun p5 H5 s5 h5 => ?_⟩
        unfold headL at h5
        rw [ed, em] at h5
        refine ⟨p5, _, _, _, rfl, rfl, h5, at_3 _ _ _ _ _, _, rfl, rfl, _, rfl, ?_⟩
        have s25 : Same H2 H5 := s4.trans s5
        have s05 : Same H H5 := s2.trans s25
        refine ite2 (fun c2 => ?_) (fun c2 => ?_)
        · have hne : xo [k, hh, l] ≠ cc := vne_ne c2
          rw [frR_stop hnle (by rw [et]; exact frS_changed hne)] at er
          exact ⟨_, rfl, .inl ⟨r, vs, rfl, SqL.of (s25 _ _ e2), fun t1 h1 => ⟨_, rfl, r, vs, rfl, .inl (SqL.of (same_new h1 _ _ (s25 _ _ e2))), (by show 2 ≤ sizeLine; decide), fun t2 h2 => ⟨(by show 2 ≤ sizeLine; decide), ret acc false vs H5 er.symm s05 (i2.mono (Tk.same s25)) t1 h1 t2 h2⟩⟩⟩⟩
        · have heq : xo [k, hh, l] = cc := vne_eq c2
          refine ⟨_, rfl, _, _, rfl, rfl, _, rfl, _, _, rfl, rfl, _, _, rfl, rfl, ?_⟩
          refine ⟨_, rfl, _, rfl, g, _, rfl, .inr (Tk.same s05 _ _ hg), _, _, rfl, rfl, _, rfl, ?_⟩
          rw [hlen]
          refine ite2 (fun c3 => ?_) (fun c3 => ?_)
          · have h3 : (t.length : Int) < 256 * hh + l + 3 := by
              have : ((o.length : Nat) : Int) < (s : Nat) + 4 + (hh * 256 + l) + 3 := of_decide_eq_true c3
              omega
            rw [frR_stop hnle (by rw [et]; exact frS_torn heq h3)] at er
            exact ⟨_, rfl, .inl ⟨r, vs, rfl, SqL.of (s25 _ _ e2), fun t1 h1 => ⟨_, rfl, r, vs, rfl, .inl (SqL.of (same_new h1 _ _ (s25 _ _ e2))), (by show 2 ≤ sizeLine; decide), fun t2 h2 => ⟨(by show 2 ≤ sizeLine; decide), ret acc true vs H5 er.symm s05 (i2.mono (Tk.same s25)) t1 h1 t2 h2⟩⟩⟩⟩
          · have h3 : ¬ (t.length : Int) < 256 * hh + l + 3 := by
              have : ¬ ((o.length : Nat) : Int) < (s : Nat) + 4 + (hh * 256 + l) + 3 := fun z => c3 (decide_eq_true z)
              omega
            generalize hn : (256 * hh + l).toNat = n at *
            have hnn : ((n : Nat) : Int) = hh * 256 + l := by omega
            -- the payload
            refine ⟨_, rfl, _, rfl, _, _, rfl, rfl, _, rfl, _, rfl, _, _, rfl, rfl, _, rfl, _, _, rfl, rfl, _, rfl, g, _, rfl, Tk.same s05 _ _ hg, fun p6 H6 s6 h6 => ?_⟩
            have ec6 : cutV (o.map V.int) (some ((s : Nat) + 4)) (some ((s : Nat) + 4 + (hh * 256 + l))) = (t.take n).map V.int := by
              rw [cut_mid (by omega) (by omega) (by rw [hlen]; omega), vI_drop]
              have q1 : (((s : Nat) : Int) + 4).toNat = s + 4 := by omega
              have q2 : (((s : Nat) : Int) + 4 + (hh * 256 + l)).toNat - (s + 4) = n := by omega
              rw [q1, q2, e4d, vI_take]
            rw [ec6] at h6
            have s06 := s05.trans s6
            have htl : (t.take n).length = n := by rw [List.length_take]; omega
            refine ⟨_, rfl, p6, t.take n, rfl, h6, by omega, fun p7 H7 s7 h7 => ?_⟩
            refine ⟨_, rfl, _, rfl, _, _, rfl, rfl, _, rfl, _, rfl, _, rfl, g, _, rfl, Tk.same (s06.trans s7) _ _ hg, fun p8 H8 s8 h8 => ?_⟩
            have ec8 : cutV (o.map V.int) (some ((s : Nat) + 4 + (hh * 256 + l) + 3 - 3)) (some ((s : Nat) + 4 + (hh * 256 + l) + 3)) = ((t.drop n).take 3).map V.int := by
              rw [cut_mid (by omega) (by omega) (by rw [hlen]; omega), vI_drop]
              have q1 : (((s : Nat) : Int) + 4 + (hh * 256 + l) + 3 - 3).toNat = s + 4 + n := by omega
              have q2 : (((s : Nat) : Int) + 4 + (hh * 256 + l) + 3).toNat - (s + 4 + n) = 3 := by omega
              rw [q1, q2, ← List.drop_drop, e4d, vI_take]
            rw [ec8] at h8
            refine ⟨_, _, .tup (Tk.same s8 _ _ h7) (dpI _), .tup h8 (dpI _), shT _, shT _, _, rfl, ?_⟩
            have ee : PyData.eqv (.tuple ((footL (t.take n)).map PyData.int)) (.tuple (((t.drop n).take 3).map PyData.int)) = decide (footL (t.take n) = (t.drop n).take 3) := by
              simp only [PyData.eqv]
              exact eqvI _ _
            rw [ee]
            have s58 : Same H5 H8 := s6.trans (s7.trans s8)
            have s28 : Same H2 H8 := s25.trans s58
            have s08 : Same H H8 := s2.trans s28
            refine ite2 (fun c4 => ?_) (fun c4 => ?_)
            · have hf : footL (t.take n) ≠ (t.drop n).take 3 := fun z => by rw [decide_eq_true z] at c4; cases c4
              rw [frR_stop hnle (by rw [et]; exact frS_foot heq h3 (by rw [hn]; exact hf))] at er
              exact ⟨_, rfl, .inl ⟨r, vs, rfl, SqL.of (s28 _ _ e2), fun t1 h1 => ⟨_, rfl, r, vs, rfl, .inl (SqL.of (same_new h1 _ _ (s28 _ _ e2))), (by show 2 ≤ sizeLine; decide), fun t2 h2 => ⟨(by show 2 ≤ sizeLine; decide), ret acc false vs H8 er.symm s08 (i2.mono (Tk.same s28)) t1 h1 t2 h2⟩⟩⟩⟩
            · have hf : footL (t.take n) = (t.drop n).take 3 := by
                refine Classical.byContradiction fun z => ?_
                rw [decide_eq_false z] at c4
                exact c4 rfl
              rw [frR_go hnle (by rw [et]; exact frS_go heq h3 (by rw [hn]; exact hf)), hn] at er
              refine ⟨_, rfl, .inl ⟨rfl, _, SqL.of (s28 _ _ e2)⟩, _, rfl, _, rfl, (by show 2 ≤ sizeLine; decide), fun p9 hp9 => ⟨r, vs, .ref p9, rfl, rfl, same_new hp9 _ _ (s28 _ _ e2), by rw [hvl, sizeLine_eq]; omega, ?_⟩⟩
              have s9 : Same H8 (upd H8 p9 (.tup [.int k, .ref p6])) := same_new hp9
              have e9 : upd H8 p9 (.tup [.int k, .ref p6]) p9 = some (.tup [.int k, .ref p6]) := upd_same
              generalize upd H8 p9 (.tup [.int k, .ref p6]) = H9 at s9 e9 ⊢
              have e9r : H9 r = some (.lst vs) := s9 _ _ (s28 _ _ e2)
              have b10 : But [r] H9 (upd H9 r (.lst (vs ++ [.ref p9]))) := But.upd (by simp)
              have e10 : upd H9 r (.lst (vs ++ [.ref p9])) r = some (.lst (vs ++ [.ref p9])) := upd_same
              have nt : NoT H9 [r] := noT_lst e9r noT_nil
              generalize upd H9 r (.lst (vs ++ [.ref p9])) = H10 at b10 e10 ⊢
              have tk10 := Tk.but (K := K) b10 nt
              have s210 : Tk K H2 H10 := (Tk.same (s28.trans s9)).trans tk10
              have h6' : SqT K H10 p6 ((t.take n).map V.int) := tk10 _ _ (Tk.same (s7.trans (s8.trans s9)) _ _ h6)
              refine ⟨_, rfl, s + 7 + n, acc ++ [(k, t.take n)], vs ++ [.ref p9], some (.int k), some (.int hh), some (.int l), some (.int cc), some (.int (hh * 256 + l)), some (.int (((s : Nat) : Int) + 4 + (hh * 256 + l) + 3)), some (.ref p6), ?_, Same.but (s08.trans s9) b10 (by simpa using hr), e10, ?_, by omega, by rw [List.length_append]; simp only [List.length_cons, List.length_nil]; omega, by omega, ?_⟩
              · have eu : ((s : Nat) : Int) + 4 + (hh * 256 + l) + 3 = ((s + 7 + n : Nat) : Int) := by omega
                rw [← eu]
                rfl
              · rw [List.map_append]
                refine (i2.mono s210).app (.cons (.tup (tk10 _ _ (SqT.of e9)) (.cons (.int k) (.cons (Im.tI h6') .nil))) .nil)
              · rw [← er]
                show frR o f (s + 7 + n) _ = frR o f (s + 7 + (t.take n).length) _
                rw [htl]
    · have hle : o.length ≤ s := by
        have : ¬ ((s : Nat) : Int) < (o.length : Nat) := fun z => c (decide_eq_true z)
        omega
      rw [frR_end hle] at er
      refine ⟨_, rfl, .inl ⟨r, vs, rfl, SqL.of e2, fun t1 h1 => ⟨(by show 2 ≤ sizeLine; decide), fun t2 h2 => ?_⟩⟩⟩
      have s3 : Same H2 (upd H2 t1 (.tup vs)) := same_new h1
      have e3 : upd H2 t1 (.tup vs) t1 = some (.tup vs) := upd_same
      generalize upd H2 t1 (.tup vs) = H3 at s3 e3 h2 ⊢
      have s4 : Same H3 (upd H3 t2 (.tup [.ref t1, .non])) := same_new h2
      refine q _ _ (s2.trans (s3.trans s4)) ?_
      rw [← er]
      exact .tup (SqT.of upd_same) (.cons (.tup (SqT.of (s4 _ _ e3)) (i2.mono (Tk.same (s3.trans s4)))) (.cons .non .nil))
end
end K77
end

section
set_option Elab.async false
set_option linter.all false
set_option maxRecDepth 100000
set_option maxHeartbeats 4000000
namespace K77
open PySem L2
def tlU : Option Bool → D
  | none => .non
  | some b => .str (tlS b)
section
variable {P : Program} {w : World} {K : PySem.W.Frag} {mg : Str → Option Value} {base : Heap}
def spWhole (K : PySem.W.Frag) : Sp := fun vs H Q _ => ∃ (g : Addr) (o : List Int), vs = [.ref g] ∧ SqT K H g (o.map V.int) ∧ Oct o ∧ o.length ≤ 1000000 ∧
  ∀ p l us u k H', Same H H' → H' p = some (.tup [.ref l, .int k, u]) → H' l = some (.lst us) → ImL K H' us ((frAll o).1.map frD) → Im K H' u (tlU (frAll o).2) → Q (.ref p) H'
theorem ok_whole (T : Tx P K mg) (G__law_framed : FnOk P w K mg base CX0 1 T._law_framed.f T._law_framed.fd ["kind", "payload"] (spFramed K)) :
    FnOk P w K mg base CX0 2 T._law_whole_frames.f T._law_whole_frames.fd ["octets"] (spWhole K) := by
  refine T._law_whole_frames.F.ok sc__law_whole_frames (fun vs H Q E h => ?_) (fun cdv A outer s H vs Q E hr h => ?_)
  · obtain ⟨g, o, rfl, _⟩ := h
    rfl
  · obtain ⟨g, o, rfl, hg, ho, hz, q⟩ := h
    have hlen : (o.map V.int).length = o.length := List.length_map ..
    have hu64 := hu64_of hr
    refine ⟨_, (pss_cons (ps_par (i := 1) (j := 2) rfl sc__law_whole_frames.nd rfl rfl (by decide) rfl rfl (pa_cons (pe_lst pa_nil) (pa_cons pe_int pa_nil)) (by rfl))
      (pss_cons (ps_for PassesOwn.never rfl (pi_range1 (by rfl) T.n_range (pa_cons (pe_op op_add (pe_callB call_len_seq (by rfl) T.n_len PySem.boot_len (pa_cons (pv 0) pa_nil)) pe_int) pa_nil)) (pg_name (i := 3) sc__law_whole_frames.nd rfl (by first | exact Or.inl rfl | exact Or.inr rfl)) (pss_cons (ps_set (i := 4) sc__law_whole_frames.nd rfl (by first | exact Or.inl rfl | exact Or.inr rfl) (pe_callTy call_list_of (by rfl) T.n_list PyProof.Rows.boot_list (pa_cons (pe_slice sl_tupU (pv 0) (po_some (pv 2)) po_none) pa_nil)))
      (pss_cons (ps_if (pt_cmpR (op_eqD hu64) (pv 4) (pe_lst pa_nil) (nomark _)) (pss_one (ps_ret (pe_tup (pa_cons (pv 1) (pa_cons (pv 2) (pa_cons pe_non pa_nil)))))) pss_nil)
      (pss_cons (ps_if (PW.pt (pw_and (pt_cmpR op_ge (pe_callB call_len_seq (by rfl) T.n_len PySem.boot_len (pa_cons (pv 4) pa_nil)) pe_int (nomark _)) (pw_and1 (pt_cmpR op_ne (pe_op op_xor (pe_op op_xor (pe_ix ix_list (pv 4) pe_int (fun _ _ => rfl)) (pe_ix ix_list (pv 4) pe_int (fun _ _ => rfl))) (pe_ix ix_list (pv 4) pe_int (fun _ _ => rfl))) (pe_ix ix_list (pv 4) pe_int (fun _ _ => rfl)) (nomark _))))) (pss_one (ps_ret (pe_tup (pa_cons (pv 1) (pa_cons (pv 2) (pa_cons pe_str pa_nil)))))) pss_nil)
      (pss_cons (ps_set (i := 5) sc__law_whole_frames.nd rfl (by first | exact Or.inl rfl | exact Or.inr rfl) (pe_ifExp (pt_cmpR op_ge (pe_callB call_len_seq (by rfl) T.n_len PySem.boot_len (pa_cons (pv 4) pa_nil)) pe_int (nomark _)) (pe_op op_add (pe_op op_mul pe_int (pe_ix ix_list (pv 4) pe_int (fun _ _ => rfl))) (pe_ix ix_list (pv 4) pe_int (fun _ _ => rfl))) pe_int))
      (pss_cons (ps_if (PW.pt (pw_or (pt_cmpR op_lt (pe_callB call_len_seq (by rfl) T.n_len PySem.boot_len (pa_cons (pv 4) pa_nil)) pe_int (nomark _)) (pw_or1 (pt_cmpR op_lt (pe_callB call_len_seq (by rfl) T.n_len PySem.boot_len (pa_cons (pv 4) pa_nil)) (pe_op op_add pe_int (pv 5)) (nomark _))))) (pss_one (ps_ret (pe_tup (pa_cons (pv 1) (pa_cons (pv 2) (pa_cons pe_str pa_nil)))))) pss_nil)
      (pss_cons (ps_if (pt_cmpR (op_neD hu64) (pe_slice sl_list (pv 4) po_none (po_some (pe_op op_add pe_int (pv 5)))) (pe_call G__law_framed (hr.mono (by decide)) rfl T._law_framed.m T._law_framed.F.kp T._law_framed.b .nil pass0 (pa_cons (pe_ix ix_list (pv 4) pe_int (fun _ _ => rfl)) (pa_cons (pe_slice sl_list (pv 4) (po_some pe_int) (po_some (pe_op op_add pe_int (pv 5)))) pa_nil))) (nomark _)) (pss_one (ps_ret (pe_tup (pa_cons (pv 1) (pa_cons (pv 2) (pa_cons pe_str pa_nil)))))) pss_nil)
      (pss_cons (ps_expr (pe_bm PySem.F.plainAttrs_list PySem.F.slot_list_append PySem.F.type_list_append mt_append (pv 1) (pa_cons (pe_tup (pa_cons (pe_ix ix_list (pv 4) pe_int (fun _ _ => rfl)) (pa_cons (pe_tupleOf rfl T.n_tuple (pe_slice sl_list (pv 4) (po_some pe_int) (po_some (pe_op op_add pe_int (pv 5))))) pa_nil))) pa_nil)))
      (pss_one (ps_set (i := 2) sc__law_whole_frames.nd rfl (by first | exact Or.inl rfl | exact Or.inr rfl) (pe_op op_add (pe_op op_add (pv 2) pe_int) (pv 5))))))))))))
      (pss_one (ps_ret (pe_tup (pa_cons (pv 1) (pa_cons (pv 2) (pa_cons pe_non pa_nil)))))))), ?_⟩
    refine ⟨Nat.zero_le _, fun r hr => ?_⟩
    have s1 : Same H (upd H r (.lst [])) := same_new hr
    have e1 : upd H r (.lst []) r = some (.lst []) := upd_same
    generalize upd H r (.lst []) = H1 at s1 e1 ⊢
    refine ⟨_, _, rfl, ?_⟩
    refine ⟨_, rfl, g, _, rfl, .inr (Tk.same s1 _ _ hg), _, _, rfl, rfl, _, rfl, by rw [hlen]; omega, by rw [hlen]; omega, ?_⟩
    have hto : (((o.map V.int).length : Int) + 1).toNat = o.length + 1 := by rw [hlen]; omega
    rw [hto]
    have ret : ∀ (acc : List (Int × List Int)) (b : Option Bool) (u : V) (k : Int) (vs : List V) (H2 : Hp), frAll o = (acc, b) → Same H H2 → H2 r = some (.lst vs) → ImL K H2 vs (acc.map frD) → (∀ H', Im K H' u (tlU b)) → ∀ t, H2 t = none → Q (.ref t) (upd H2 t (.tup [.ref r, .int k, u])) := fun acc b u k vs H2 e s2 e2 i2 hu t ht => by
      have s3 : Same H2 (upd H2 t (.tup [.ref r, .int k, u])) := same_new ht
      refine q t r vs u k _ (s2.trans s3) upd_same (s3 _ _ e2) ?_ ?_
      · rw [e]; exact i2.mono (Tk.same s3)
      · rw [e]; exact hu _
    refine for_range (fun i σ H' => ∃ (s : Nat) (acc : List (Int × List Int)) (vs : List V) (u3 u4 u5 : Option V), σ = [some (.ref g), some (.ref r), some (.int (s : Nat)), u3, u4, u5] ∧ Same H H' ∧ H' r = some (.lst vs) ∧ ImL K H' vs (acc.map frD) ∧ s ≤ o.length ∧ acc.length ≤ s ∧ ∃ f, f + i = o.length + 1 ∧ o.length < s + f ∧ frR o f s acc = frAll o)
      ⟨0, [], [], none, none, none, rfl, s1, e1, .nil, Nat.zero_le _, Nat.le_refl _, o.length + 1, rfl, by omega, rfl⟩ ?_ ?_
    · rintro i σ H2 hi ⟨s, acc, vs, u3, u4, u5, rfl, s2, e2, i2, hs, has, f, hf, hfs, er⟩
      have hg2 := Tk.same s2 _ _ hg
      have hvl := i2.len
      rw [List.length_map] at hvl
      obtain ⟨f, rfl⟩ : ∃ f', f = f' + 1 := ⟨f - 1, by omega⟩
      refine ⟨_, rfl, _, rfl, _, rfl, g, _, rfl, hg2, fun p4 H4 s4 h4 => ⟨p4, _, rfl, .inr h4, fun l5 hl5 => ?_⟩⟩
      have ec : cutV (o.map V.int) (some (s : Nat)) none = (o.drop s).map V.int := by
        rw [cut_from (by omega) (by rw [hlen]; omega), Int.toNat_natCast, vI_drop]
      rw [ec]
      have hdl := List.length_drop (l := o) (i := s)
      generalize hR : o.drop s = R at hdl
      have s5 : Same H4 (upd H4 l5 (.lst (R.map V.int))) := same_new hl5
      have e5 : upd H4 l5 (.lst (R.map V.int)) l5 = some (.lst (R.map V.int)) := upd_same
      generalize upd H4 l5 (.lst (R.map V.int)) = H5 at s5 e5 ⊢
      have hRl : (R.map V.int).length = R.length := List.length_map ..
      have s25 : Same H2 H5 := s4.trans s5
      refine ⟨_, rfl, Nat.zero_le _, fun l6 hl6 => ?_⟩
      have s6 : Same H5 (upd H5 l6 (.lst [])) := same_new hl6
      have e6 : upd H5 l6 (.lst []) l6 = some (.lst []) := upd_same
      generalize upd H5 l6 (.lst []) = H6 at s6 e6 ⊢
      have s26 : Same H2 H6 := s25.trans s6
      have s06 : Same H H6 := s2.trans s26
      have e56 := s6 _ _ e5
      have i6 := i2.mono (Tk.same s26)
      have e26 := s26 _ _ e2
      refine ⟨_, _, .lst (SqL.of e56) (dpI R), .lst (SqL.of e6) .nil, shL _, shL [], _, rfl, ?_⟩
      have ee : PyData.eqv (.list (R.map PyData.int)) (.list []) = decide (R = []) := by
        simp only [PyData.eqv]
        exact eqvI R []
      rw [ee]
      refine ite2 (fun c => ?_) (fun c => ?_)
      · have hR0 := of_decide_eq_true c
        rw [hR0] at hdl
        simp only [List.length_nil] at hdl
        rw [frR_end (by omega)] at er
        exact ⟨_, rfl, _, rfl, (by show 3 ≤ sizeLine; decide), ret acc none .non _ vs H6 er.symm s06 e26 i6 (fun _ => .non)⟩
      · have hR0 : R ≠ [] := fun z => c (decide_eq_true z)
        have hRp : R.length ≠ 0 := fun z => hR0 (List.eq_nil_of_length_eq_zero z)
        have hnle : ¬ o.length ≤ s := by omega
        refine ⟨_, rfl, l5, _, rfl, .inl (SqL.of e56), _, _, rfl, rfl, _, rfl, ?_⟩
        rw [hRl]
        by_cases h4 : 4 ≤ R.length
        · obtain ⟨k, hh, l, cc, t, rfl⟩ := four h4
          simp only [List.length_cons] at hdl
          have hoc : Oct (k :: hh :: l :: cc :: t) := by rw [← hR]; exact ho.drop s
          have ohh := hoc hh (by simp)
          have ol := hoc l (by simp)
          have ok' := hoc k (by simp)
          simp only [List.map_cons] at e56 hRl
          have q5 : SqL K H6 l5 (V.int k :: V.int hh :: V.int l :: V.int cc :: t.map V.int) := SqL.of e56
          refine ite2 (fun _ => ?_) (fun c1 => absurd (decide_eq_true (by simp only [List.length_cons]; omega)) c1)
          refine ⟨_, rfl, l5, _, _, _, rfl, rfl, q5, at_0 _ _, _, rfl, l5, _, _, _, rfl, rfl, q5, at_1 _ _ _, _, _, rfl, rfl, _, rfl, l5, _, _, _, rfl, rfl, q5, at_2 _ _ _ _, _, _, rfl, rfl, _, rfl, l5, _, _, _, rfl, rfl, q5, at_3 _ _ _ _ _, rfl, _, rfl, ?_⟩
          have exo : Builtin.bitXor (Builtin.bitXor k hh) l = xo [k, hh, l] := by
            show _ = Builtin.bitXor (Builtin.bitXor (Builtin.bitXor 0 k) hh) l
            rw [xor0]
          refine ite2 (fun c2 => ?_) (fun c2 => ?_)
          · have hne : xo [k, hh, l] ≠ cc := by rw [← exo]; exact vne_ne c2
            rw [frR_stop hnle (by rw [hR]; exact frS_changed hne)] at er
            exact ⟨_, rfl, _, rfl, (by show 3 ≤ sizeLine; decide), ret acc (some false) (.str "changed") _ vs H6 er.symm s06 e26 i6 (fun _ => .str _)⟩
          · have heq : xo [k, hh, l] = cc := by rw [← exo]; exact vne_eq c2
            refine ⟨_, rfl, l5, _, rfl, .inl q5, _, _, rfl, rfl, _, rfl, ?_⟩
            refine ite2 (fun _ => ?_) (fun c1 => absurd (decide_eq_true (by simp only [List.length_cons, List.length_map]; omega)) c1)
            refine ⟨_, rfl, l5, _, _, _, rfl, rfl, q5, at_1 _ _ _, _, _, rfl, rfl, .inl ⟨by decide, by decide⟩, _, rfl, l5, _, _, _, rfl, rfl, q5, at_2 _ _ _ _, _, _, rfl, rfl, ?_⟩
            refine ⟨_, rfl, l5, _, rfl, .inl q5, _, _, rfl, rfl, _, rfl, ?_⟩
            refine ite2 (fun c1 => absurd (of_decide_eq_true c1) (by simp only [List.length_cons, List.length_map]; omega)) (fun _ => ?_)
            refine ⟨_, rfl, l5, _, rfl, .inl q5, _, rfl, _, _, rfl, rfl, _, _, rfl, rfl, _, rfl, ?_⟩
            refine ite2 (fun c3 => ?_) (fun c3 => ?_)
            · have h3 : (t.length : Int) < 256 * hh + l + 3 := by
                have := of_decide_eq_true c3
                simp only [List.length_cons, List.length_map] at this
                omega
              rw [frR_stop hnle (by rw [hR]; exact frS_torn heq h3)] at er
              exact ⟨_, rfl, _, rfl, (by show 3 ≤ sizeLine; decide), ret acc (some true) (.str "torn") _ vs H6 er.symm s06 e26 i6 (fun _ => .str _)⟩
            · have h3 : ¬ (t.length : Int) < 256 * hh + l + 3 := fun z => c3 (decide_eq_true (by simp only [List.length_cons, List.length_map]; omega))
              have hfi := frame_iff (k := k) (t := t) ohh ol heq h3
              generalize hn : (256 * hh + l).toNat = n at *
              have hnn : ((n : Nat) : Int) = 256 * hh + l := by omega
              have htl : (t.take n).length = n := by rw [List.length_take]; omega
              -- rest[:7 + long]
              refine ⟨_, rfl, _, rfl, _, _, rfl, rfl, _, rfl, l5, _, rfl, q5, fun a7 ha7 => ?_⟩
              have ec7 : cutV (V.int k :: V.int hh :: V.int l :: V.int cc :: t.map V.int) none (some (7 + (256 * hh + l))) = ((k :: hh :: l :: cc :: t).take (7 + n)).map V.int := by
                rw [cut_to (by omega)]
                have q1 : (7 + (256 * hh + l)).toNat = 7 + n := by omega
                rw [q1, List.map_take]
                rfl
              have s7 : Same H6 (upd H6 a7 (.lst (cutV (V.int k :: V.int hh :: V.int l :: V.int cc :: t.map V.int) none (some (7 + (256 * hh + l)))))) := same_new ha7
              have e7 : upd H6 a7 (.lst (cutV (V.int k :: V.int hh :: V.int l :: V.int cc :: t.map V.int) none (some (7 + (256 * hh + l))))) a7 = some (.lst (((k :: hh :: l :: cc :: t).take (7 + n)).map V.int)) := by rw [upd_same, ec7]
              show _
              generalize upd H6 a7 (.lst (cutV (V.int k :: V.int hh :: V.int l :: V.int cc :: t.map V.int) none (some (7 + (256 * hh + l))))) = H7 at s7 e7 ⊢
              have q57 : SqL K H7 l5 (V.int k :: V.int hh :: V.int l :: V.int cc :: t.map V.int) := SqL.of (s7 _ _ e56)
              have ec8 : cutV (V.int k :: V.int hh :: V.int l :: V.int cc :: t.map V.int) (some 4) (some (4 + (256 * hh + l))) = (t.take n).map V.int := by
                rw [cut_mid (by omega) (by omega) (by simp only [List.length_cons, List.length_map]; omega)]
                have q1 : (4 + (256 * hh + l)).toNat - (4 : Int).toNat = n := by omega
                rw [q1, ← vI_take]
                rfl
              refine ⟨_, rfl, l5, _, _, _, rfl, rfl, q57, at_0 _ _, _, rfl, _, rfl, _, rfl, _, _, rfl, rfl, _, rfl, l5, _, rfl, q57, fun a8 ha8 => ?_⟩
              have s8 : Same H7 (upd H7 a8 (.lst (cutV (V.int k :: V.int hh :: V.int l :: V.int cc :: t.map V.int) (some 4) (some (4 + (256 * hh + l)))))) := same_new ha8
              have e8 : upd H7 a8 (.lst (cutV (V.int k :: V.int hh :: V.int l :: V.int cc :: t.map V.int) (some 4) (some (4 + (256 * hh + l))))) a8 = some (.lst ((t.take n).map V.int)) := by rw [upd_same, ec8]
              generalize upd H7 a8 (.lst (cutV (V.int k :: V.int hh :: V.int l :: V.int cc :: t.map V.int) (some 4) (some (4 + (256 * hh + l))))) = H8 at s8 e8 ⊢
              refine ⟨k, a8, t.take n, rfl, .inr e8, by omega, fun a9 H9 s9 _ e9 => ?_⟩
              refine ⟨_, _, .lst (SqL.of (s9 _ _ (s8 _ _ e7))) (dpI _), .lst (SqL.of e9) (dpI _), shL _, shL _, _, rfl, ?_⟩
              have ee2 : PyData.eqv (.list (((k :: hh :: l :: cc :: t).take (7 + n)).map PyData.int)) (.list ((frameL k (t.take n)).map PyData.int)) = decide ((k :: hh :: l :: cc :: t).take (7 + n) = frameL k (t.take n)) := by
                simp only [PyData.eqv]
                exact eqvI _ _
              rw [ee2]
              have s69 : Same H6 H9 := s7.trans (s8.trans s9)
              have s09 : Same H H9 := s06.trans s69
              have i9 := i6.mono (Tk.same s69)
              have e29 := s69 _ _ e26
              refine ite2 (fun c4 => ?_) (fun c4 => ?_)
              · have hff : footL (t.take n) ≠ (t.drop n).take 3 := fun z => by rw [decide_eq_true (hfi.mpr z)] at c4; cases c4
                rw [frR_stop hnle (by rw [hR]; exact frS_foot heq h3 (by rw [hn]; exact hff))] at er
                exact ⟨_, rfl, _, rfl, (by show 3 ≤ sizeLine; decide), ret acc (some false) (.str "changed") _ vs H9 er.symm s09 e29 i9 (fun _ => .str _)⟩
              · have hff : footL (t.take n) = (t.drop n).take 3 := by
                  refine hfi.mp (Classical.byContradiction fun z => ?_)
                  rw [decide_eq_false z] at c4
                  exact c4 rfl
                rw [frR_go hnle (by rw [hR]; exact frS_go heq h3 (by rw [hn]; exact hff)), hn] at er
                have q59 : SqL K H9 l5 (V.int k :: V.int hh :: V.int l :: V.int cc :: t.map V.int) := SqL.of (s69 _ _ e56)
                refine ⟨_, rfl, .inl ⟨rfl, _, SqL.of e29⟩, _, rfl, l5, _, _, _, rfl, rfl, q59, at_0 _ _, _, rfl, _, rfl, _, rfl, _, _, rfl, rfl, _, rfl, l5, _, rfl, q59, fun b1 hb1 => ?_⟩
                have t1 : Same H9 (upd H9 b1 (.lst (cutV (V.int k :: V.int hh :: V.int l :: V.int cc :: t.map V.int) (some 4) (some (4 + (256 * hh + l)))))) := same_new hb1
                have f1 : upd H9 b1 (.lst (cutV (V.int k :: V.int hh :: V.int l :: V.int cc :: t.map V.int) (some 4) (some (4 + (256 * hh + l))))) b1 = some (.lst ((t.take n).map V.int)) := by rw [upd_same, ec8]
                generalize upd H9 b1 (.lst (cutV (V.int k :: V.int hh :: V.int l :: V.int cc :: t.map V.int) (some 4) (some (4 + (256 * hh + l))))) = G1 at t1 f1 ⊢
                refine .inl ⟨b1, _, rfl, SqL.of f1, fun b2 hb2 => ?_⟩
                have t2 : Same G1 (upd G1 b2 (.tup ((t.take n).map V.int))) := same_new hb2
                have f2 : upd G1 b2 (.tup ((t.take n).map V.int)) b2 = some (.tup ((t.take n).map V.int)) := upd_same
                generalize upd G1 b2 (.tup ((t.take n).map V.int)) = G2 at t2 f2 ⊢
                refine ⟨(by show 2 ≤ sizeLine; decide), fun b3 hb3 => ?_⟩
                have t3 : Same G2 (upd G2 b3 (.tup [.int k, .ref b2])) := same_new hb3
                have f3 : upd G2 b3 (.tup [.int k, .ref b2]) b3 = some (.tup [.int k, .ref b2]) := upd_same
                generalize upd G2 b3 (.tup [.int k, .ref b2]) = G3 at t3 f3 ⊢
                have s93 : Same H9 G3 := t1.trans (t2.trans t3)
                have e3r := s93 _ _ e29
                refine ⟨r, vs, .ref b3, rfl, rfl, e3r, by rw [hvl, sizeLine_eq]; omega, ?_⟩
                have b10 : But [r] G3 (upd G3 r (.lst (vs ++ [.ref b3]))) := But.upd (by simp)
                have e10 : upd G3 r (.lst (vs ++ [.ref b3])) r = some (.lst (vs ++ [.ref b3])) := upd_same
                have nt : NoT G3 [r] := noT_lst e3r noT_nil
                generalize upd G3 r (.lst (vs ++ [.ref b3])) = H10 at b10 e10 ⊢
                have tk10 := Tk.but (K := K) b10 nt
                have tk9 : Tk K H9 H10 := (Tk.same s93).trans tk10
                refine ⟨_, rfl, _, _, rfl, rfl, _, rfl, _, _, rfl, rfl, s + 7 + n, acc ++ [(k, t.take n)], vs ++ [.ref b3], some (.int (0 + (i : Nat))), some (.ref l5), some (.int (256 * hh + l)), ?_, Same.but (s09.trans s93) b10 (by simpa using hr), e10, ?_, by omega, by rw [List.length_append]; simp only [List.length_cons, List.length_nil]; omega, f, by omega, by omega, ?_⟩
                · have eu : ((s : Nat) : Int) + 7 + (256 * hh + l) = ((s + 7 + n : Nat) : Int) := by omega
                  rw [← eu]
                  rfl
                · rw [List.map_append]
                  exact (i9.mono tk9).app (.cons (.tup (tk10 _ _ (SqT.of f3)) (.cons (.int k) (.cons (Im.tI (tk10 _ _ (SqT.of (t3 _ _ f2)))) .nil))) .nil)
                · rw [← er]
                  show frR o f (s + 7 + n) _ = frR o f (s + 7 + (t.take n).length) _
                  rw [htl]
        · have hsh : R.length < 4 := by omega
          rw [frR_stop hnle (by rw [hR]; exact frS_short hsh)] at er
          refine ite2 (fun c1 => absurd (of_decide_eq_true c1) (by omega)) (fun _ => ?_)
          refine iteF ?_
          refine ⟨_, rfl, l5, _, rfl, .inl (SqL.of e56), _, _, rfl, rfl, _, rfl, ?_⟩
          rw [hRl]
          refine ite2 (fun c1 => absurd (of_decide_eq_true c1) (by omega)) (fun _ => ?_)
          refine ⟨_, rfl, l5, _, rfl, .inl (SqL.of e56), _, _, rfl, rfl, _, rfl, ?_⟩
          rw [hRl]
          refine ite2 (fun _ => iteT ?_) (fun c1 => absurd (decide_eq_true (by omega)) c1)
          exact ⟨_, rfl, _, rfl, (by show 3 ≤ sizeLine; decide), ret acc (some true) (.str "torn") _ vs H6 er.symm s06 e26 i6 (fun _ => .str _)⟩
    · rintro σ H2 ⟨s, acc, vs, u3, u4, u5, rfl, s2, e2, i2, hs, has, f, hf, hfs, er⟩
      omega
end
end K77
end

section
set_option Elab.async false
set_option linter.all false
set_option maxRecDepth 100000
set_option maxHeartbeats 4000000
namespace K77
open PySem L2
/-! ### the medium, plain -/
def nm : Nat → Str
  | 0 => "life"
  | 1 => "left"
  | _ => "right"
def fset {α : Type} (f : Nat → α) (i : Nat) (x : α) : Nat → α := fun j => if j = i then x else f j
theorem fset_eq {α : Type} {f : Nat → α} {i : Nat} {x : α} : fset f i x i = x := if_pos rfl
structure Md where
  rows : Nat → List Int
  safe : Nat → Nat
  former : Nat → Option (List Int)
def Md.new : Md := ⟨fun _ => [], fun _ => 0, fun _ => none⟩
def Md.write (M : Md) (i : Nat) (l : List Int) : Md := ⟨fset M.rows i (M.rows i ++ l), M.safe, M.former⟩
def Md.sync (M : Md) (i : Nat) : Md := ⟨M.rows, fset M.safe i (M.rows i).length, fset M.former i none⟩
def Md.begin (M : Md) (i : Nat) : Md := ⟨fset M.rows i [], fset M.safe i 0, fset M.former i (some ((M.former i).getD ((M.rows i).take (M.safe i))))⟩
def Md.trim (M : Md) (i n : Nat) : Md := ⟨fset M.rows i ((M.rows i).take n), fset M.safe i n, fset M.former i none⟩
def chs (M : Md) (i : Nat) : List Int := (if (M.former i).isSome then [-1] else []) ++ (List.range ((M.rows i).length + 1 - M.safe i)).map fun j => ((M.safe i : Nat) : Int) + ((j : Nat) : Int)
def formD : Option (List Int) → D
  | none => .non
  | some l => tI l
def choicesD (M : Md) : D := .tup [tI (chs M 0), tI (chs M 1), tI (chs M 2)]
/-- small, and no more is safe than stands there -/
structure MOk (M : Md) (B : Nat) : Prop where
  len : ∀ i, (M.rows i).length ≤ B
  flen : ∀ i l, M.former i = some l → l.length ≤ B
  sf : ∀ i, M.safe i ≤ (M.rows i).length
theorem fset_cases {α : Type} {f : Nat → α} {i : Nat} {x : α} {P : Nat → α → Prop} (h1 : P i x) (h2 : ∀ j, P j (f j)) : ∀ j, P j (fset f i x j) := fun j => by
  unfold fset
  by_cases c : j = i
  · rw [if_pos c, c]; exact h1
  · rw [if_neg c]; exact h2 j
def kvF (v : Nat → V) : List (Key × V) := [(.inr "life", v 0), (.inr "left", v 1), (.inr "right", v 2)]
theorem lt3 {i : Nat} (h : i < 3) : i = 0 ∨ i = 1 ∨ i = 2 := by omega
theorem valF {v : Nat → V} {i : Nat} (h : i < 3) : valV (kvF v) (.inr (nm i)) = some (v i) := by
  rcases lt3 h with rfl | rfl | rfl <;> rfl
theorem putF3 {v : Nat → V} {i : Nat} {x : V} (h : i < 3) : putK (kvF v) (.inr (nm i)) x = kvF (fset v i x) := by
  rcases lt3 h with rfl | rfl | rfl <;> rfl
theorem dget {H : Hp} {d : Addr} {v : Nat → V} {i : Nat} (hd : H d = some (.dK (kvF v))) (h : i < 3) : DGet H d (.str (nm i)) (some (v i)) := by
  have := DGet.k (k := .inr (nm i)) hd
  rw [valF h] at this
  exact this
theorem dput {H : Hp} {d : Addr} {v : Nat → V} {i : Nat} {x : V} (hd : H d = some (.dK (kvF v))) (h : i < 3) : DPut H d (.str (nm i)) x (upd H d (.dK (kvF (fset v i x)))) := by
  have := DPut.k (k := .inr (nm i)) (v := x) hd (by show 3 < sizeLine; decide)
  rw [putF3 h] at this
  exact this
section
variable {P : Program} {w : World} {K : PySem.W.Frag} {mg : Str → Option Value} {base : Heap}
/-- a medium at a, its dicts at dr, ds, df -/
structure Med (K : PySem.W.Frag) (C a dr ds df : Addr) (H : Hp) (M : Md) : Prop where
  at_ : ∃ dx, H a = some (.ins C dx [("rows", .ref dr), ("safe", .ref ds), ("former", .ref df)])
  rs : dr ≠ ds
  rf : dr ≠ df
  sf : ds ≠ df
  hr : ∃ v, H dr = some (.dK (kvF v)) ∧ ∀ i, Im K H (v i) (tI (M.rows i))
  hs : H ds = some (.dK (kvF fun i => .int (M.safe i : Nat)))
  hf : ∃ v, H df = some (.dK (kvF v)) ∧ ∀ i, Im K H (v i) (formD (M.former i))
theorem Med.noT {C a dr ds df : Addr} {H : Hp} {M : Md} (m : Med K C a dr ds df H M) : NoT H [dr, ds, df] := by
  obtain ⟨v, e, _⟩ := m.hr
  obtain ⟨v2, e2, _⟩ := m.hf
  exact noT_dK e (noT_dK m.hs (noT_dK e2 noT_nil))
theorem Med.keep {C a dr ds df : Addr} {H H' : Hp} {M : Md} {S : List Addr} (m : Med K C a dr ds df H M) (b : But S H H') (t : Tk K H H') (n : a ∉ S ∧ dr ∉ S ∧ ds ∉ S ∧ df ∉ S) : Med K C a dr ds df H' M := by
  obtain ⟨dx, ea⟩ := m.at_
  obtain ⟨v, e, h⟩ := m.hr
  obtain ⟨v2, e2, h2⟩ := m.hf
  exact ⟨⟨dx, b _ _ n.1 ea⟩, m.rs, m.rf, m.sf, ⟨v, b _ _ n.2.1 e, fun i => (h i).mono t⟩, b _ _ n.2.2.1 m.hs, ⟨v2, b _ _ n.2.2.2 e2, fun i => (h2 i).mono t⟩⟩
theorem Med.same {C a dr ds df : Addr} {H H' : Hp} {M : Md} (m : Med K C a dr ds df H M) (s : Same H H') : Med K C a dr ds df H' M := m.keep (S := []) (But.of s) (Tk.same s) (by simp)
theorem Med.na {C a dr ds df : Addr} {H : Hp} {M : Md} (m : Med K C a dr ds df H M) : a ≠ dr ∧ a ≠ ds ∧ a ≠ df := by
  obtain ⟨dx, ea⟩ := m.at_
  obtain ⟨v, e, h⟩ := m.hr
  obtain ⟨v2, e2, h2⟩ := m.hf
  exact ⟨fun z => (by rw [z, e] at ea; cases ea), fun z => (by rw [z, m.hs] at ea; cases ea), fun z => (by rw [z, e2] at ea; cases ea)⟩
/-- one dict is written -/
theorem Med.putR {C a dr ds df : Addr} {H : Hp} {M : Md} {i : Nat} {v : Nat → V} {x : V} {l : List Int} (m : Med K C a dr ds df H M) (e : H dr = some (.dK (kvF v))) (hv : ∀ i, Im K H (v i) (tI (M.rows i))) (hx : Im K H x (tI l)) :
    Med K C a dr ds df (upd H dr (.dK (kvF (fset v i x)))) ⟨fset M.rows i l, M.safe, M.former⟩ := by
  obtain ⟨dx, ea⟩ := m.at_
  obtain ⟨v2, e2, h2⟩ := m.hf
  have b : But [dr] H (upd H dr (.dK (kvF (fset v i x)))) := But.upd (by simp)
  have t : Tk K H (upd H dr (.dK (kvF (fset v i x)))) := Tk.but b (noT_dK e noT_nil)
  refine ⟨⟨dx, b _ _ (by simpa using m.na.1) ea⟩, m.rs, m.rf, m.sf, ⟨_, upd_same, fun j => ?_⟩, b _ _ (by simpa using Ne.symm m.rs) m.hs, ⟨v2, b _ _ (by simpa using Ne.symm m.rf) e2, fun i => (h2 i).mono t⟩⟩
  show Im K _ (fset v i x j) (tI (fset M.rows i l j))
  unfold fset
  by_cases c : j = i
  · rw [if_pos c, if_pos c]; exact hx.mono t
  · rw [if_neg c, if_neg c]; exact (hv j).mono t
theorem Med.putS {C a dr ds df : Addr} {H : Hp} {M : Md} {i n : Nat} (m : Med K C a dr ds df H M) :
    Med K C a dr ds df (upd H ds (.dK (kvF (fset (fun i => .int (M.safe i : Nat)) i (.int (n : Nat)))))) ⟨M.rows, fset M.safe i n, M.former⟩ := by
  obtain ⟨dx, ea⟩ := m.at_
  obtain ⟨v, e, h⟩ := m.hr
  obtain ⟨v2, e2, h2⟩ := m.hf
  have b : But [ds] H (upd H ds (.dK (kvF (fset (fun i => .int (M.safe i : Nat)) i (.int (n : Nat)))))) := But.upd (by simp)
  have t : Tk K H (upd H ds (.dK (kvF (fset (fun i => .int (M.safe i : Nat)) i (.int (n : Nat)))))) := Tk.but b (noT_dK m.hs noT_nil)
  refine ⟨⟨dx, b _ _ (by simpa using m.na.2.1) ea⟩, m.rs, m.rf, m.sf, ⟨v, b _ _ (by simpa using m.rs) e, fun i => (h i).mono t⟩, ?_, ⟨v2, b _ _ (by simpa using Ne.symm m.sf) e2, fun i => (h2 i).mono t⟩⟩
  rw [upd_same]
  congr 3
  funext j
  show (if j = i then V.int (n : Nat) else V.int (M.safe j : Nat)) = V.int ((if j = i then n else M.safe j : Nat) : Int)
  by_cases c : j = i
  · rw [if_pos c, if_pos c]
  · rw [if_neg c, if_neg c]
theorem Med.putF {C a dr ds df : Addr} {H : Hp} {M : Md} {i : Nat} {v : Nat → V} {x : V} {l : Option (List Int)} (m : Med K C a dr ds df H M) (e : H df = some (.dK (kvF v))) (hv : ∀ i, Im K H (v i) (formD (M.former i))) (hx : Im K H x (formD l)) :
    Med K C a dr ds df (upd H df (.dK (kvF (fset v i x)))) ⟨M.rows, M.safe, fset M.former i l⟩ := by
  obtain ⟨dx, ea⟩ := m.at_
  obtain ⟨v2, e2, h2⟩ := m.hr
  have b : But [df] H (upd H df (.dK (kvF (fset v i x)))) := But.upd (by simp)
  have t : Tk K H (upd H df (.dK (kvF (fset v i x)))) := Tk.but b (noT_dK e noT_nil)
  refine ⟨⟨dx, b _ _ (by simpa using m.na.2.2) ea⟩, m.rs, m.rf, m.sf, ⟨v2, b _ _ (by simpa using m.rf) e2, fun i => (h2 i).mono t⟩, b _ _ (by simpa using m.sf) m.hs, ⟨_, upd_same, fun j => ?_⟩⟩
  show Im K _ (fset v i x j) (formD (fset M.former i l j))
  unfold fset
  by_cases c : j = i
  · rw [if_pos c, if_pos c]; exact hx.mono t
  · rw [if_neg c, if_neg c]; exact (hv j).mono t
/-! ### the methods -/
def spMRead (K : PySem.W.Frag) (C : Addr) : Sp := fun vs H Q _ => ∃ a dr ds df M i, vs = [.ref a, .str (nm i)] ∧ i < 3 ∧ Med K C a dr ds df H M ∧ ∀ v, Im K H v (tI (M.rows i)) → Q v H
theorem ok_mread (T : Tx P K mg) : FnOk P w K mg base CX0 1 T.Medium_read.f T.Medium_read.fd ["self", "name"] (spMRead K T.CMedium) := by
  refine T.Medium_read.F.ok sc_Medium_read (fun vs H Q E h => ?_) (fun cdv A outer s H vs Q E hr h => ?_)
  · obtain ⟨a, dr, ds, df, M, i, rfl, _⟩ := h
    rfl
  · obtain ⟨a, dr, ds, df, M, i, rfl, hi, m, q⟩ := h
    have hu := hu_of hr
    obtain ⟨dx, ea⟩ := m.at_
    obtain ⟨v, e, h⟩ := m.hr
    exact ⟨_, (pss_one (ps_ret (pe_dget hu (pe_fld (pv 0) rfl) (pv 1) (fun _ _ => rfl)))), ⟨.ref a, rfl, a, _, dx, _, .ref dr, rfl, ea, T.Medium.cl, T.Medium_rows, rfl, _, rfl, dr, _, rfl, dget e hi, q _ (h i)⟩⟩
/-- what a method that changes one file does -/
def spMChg (K : PySem.W.Frag) (C : Addr) (f : Md → Nat → Md) : Sp := fun vs H Q _ => ∃ a dr ds df M i, vs = [.ref a, .str (nm i)] ∧ i < 3 ∧ Med K C a dr ds df H M ∧ ∀ H', But [dr, ds, df] H H' → Med K C a dr ds df H' (f M i) → Q .non H'
theorem ok_msync (T : Tx P K mg) : FnOk P w K mg base CX0 1 T.Medium_sync.f T.Medium_sync.fd ["self", "name"] (spMChg K T.CMedium Md.sync) := by
  refine T.Medium_sync.F.ok sc_Medium_sync (fun vs H Q E h => ?_) (fun cdv A outer s H vs Q E hr h => ?_)
  · obtain ⟨a, dr, ds, df, M, i, rfl, _⟩ := h
    rfl
  · obtain ⟨a, dr, ds, df, M, i, rfl, hi, m, q⟩ := h
    have hu := hu_of hr
    obtain ⟨dx, ea⟩ := m.at_
    obtain ⟨v, e, h⟩ := m.hr
    obtain ⟨g, eg, hg⟩ := (h i).to_tI
    refine ⟨_, (pss_one (ps_asg (pe_tup (pa_cons (pe_callB call_len_seq (by rfl) T.n_len PySem.boot_len (pa_cons (pe_dget hu (pe_fld (pv 0) rfl) (pv 1) (fun _ _ => rfl)) pa_nil)) (pa_cons pe_non pa_nil))) (pg_tup rfl (pgs_cons (pg_sub (pe_fld (pv 0) rfl) (pv 1) (set_dict hu)) (pgs_cons (pg_sub (pe_fld (pv 0) rfl) (pv 1) (set_dict hu)) pgs_nil))))), ?_⟩
    refine ⟨.ref a, rfl, a, _, dx, _, .ref dr, rfl, ea, T.Medium.cl, T.Medium_rows, rfl, _, rfl, dr, _, rfl, dget e hi, g, _, congrArg (fun z => [z]) eg, .inr hg, (by show 2 ≤ sizeLine; decide), fun t ht => ?_⟩
    rw [List.length_map]
    have s1 : Same H (upd H t (.tup [.int ((M.rows i).length : Nat), .non])) := same_new ht
    have e1 : upd H t (.tup [.int ((M.rows i).length : Nat), .non]) t = some (.tup [.int ((M.rows i).length : Nat), .non]) := upd_same
    generalize upd H t (.tup [.int ((M.rows i).length : Nat), .non]) = H1 at s1 e1 ⊢
    have m1 := m.same s1
    obtain ⟨dx1, ea1⟩ := m1.at_
    refine ⟨t, _, rfl, SqT.of e1, rfl, _, _, rfl, .ref a, rfl, a, _, dx1, _, .ref ds, rfl, ea1, T.Medium.cl, T.Medium_safe, rfl, _, rfl, ds, _, rfl, dput m1.hs hi, ?_⟩
    have m2 := m1.putS (i := i) (n := (M.rows i).length)
    have b2 : But [dr, ds, df] H1 (upd H1 ds (.dK (kvF (fset (fun i => .int (M.safe i : Nat)) i (.int ((M.rows i).length : Nat)))))) := But.upd (by simp)
    generalize upd H1 ds (.dK (kvF (fset (fun i => .int (M.safe i : Nat)) i (.int ((M.rows i).length : Nat))))) = H2 at m2 b2 ⊢
    obtain ⟨dx2, ea2⟩ := m2.at_
    obtain ⟨v2, e2, h2⟩ := m2.hf
    refine ⟨_, _, rfl, .ref a, rfl, a, _, dx2, _, .ref df, rfl, ea2, T.Medium.cl, T.Medium_former, rfl, _, rfl, df, _, rfl, dput e2 hi, rfl, ?_⟩
    exact q _ ((But.of s1).trans (b2.trans (But.upd (by simp)))) (m2.putF (l := none) e2 h2 .non)
end
end K77
end

section
set_option Elab.async false
set_option linter.all false
set_option maxRecDepth 100000
set_option maxHeartbeats 4000000
namespace K77
open PySem L2
theorem fset_id {α : Type} {f : Nat → α} {i : Nat} {x : α} (h : f i = x) : fset f i x = f := by
  funext j
  unfold fset
  by_cases c : j = i
  · rw [if_pos c, c, h]
  · rw [if_neg c]
theorem cut_nat {xs : List V} {n : Nat} : cutV xs none (some (n : Int)) = xs.take n := by
  rw [cut_to (by omega), Int.toNat_natCast]
section
variable {P : Program} {w : World} {K : PySem.W.Frag} {mg : Str → Option Value} {base : Heap}
def spMWrite (K : PySem.W.Frag) (C : Addr) : Sp := fun vs H Q _ => ∃ a dr ds df M i g l, vs = [.ref a, .str (nm i), .ref g] ∧ i < 3 ∧ Med K C a dr ds df H M ∧ SqT K H g (l.map V.int) ∧ (M.rows i).length + l.length ≤ 1000000 ∧ ∀ H', But [dr, ds, df] H H' → Med K C a dr ds df H' (M.write i l) → Q .non H'
theorem ok_mwrite (T : Tx P K mg) : FnOk P w K mg base CX0 1 T.Medium_write.f T.Medium_write.fd ["self", "name", "octets"] (spMWrite K T.CMedium) := by
  refine T.Medium_write.F.ok sc_Medium_write (fun vs H Q E h => ?_) (fun cdv A outer s H vs Q E hr h => ?_)
  · obtain ⟨a, dr, ds, df, M, i, g, l, rfl, _⟩ := h
    rfl
  · obtain ⟨a, dr, ds, df, M, i, g, l, rfl, hi, m, hg, hz, q⟩ := h
    have hu := hu_of hr
    obtain ⟨dx, ea⟩ := m.at_
    obtain ⟨v, e, h⟩ := m.hr
    obtain ⟨g0, eg, hg0⟩ := (h i).to_tI
    refine ⟨_, (pss_one (ps_dput hu (pe_fld (pv 0) rfl) (pv 1) (pe_op op_catU (pe_dget hu (pe_fld (pv 0) rfl) (pv 1) (fun _ _ => rfl)) (pe_tupleOf rfl T.n_tuple (pv 2))) rfl)), ?_⟩
    refine ⟨.ref a, rfl, a, _, dx, _, .ref dr, rfl, ea, T.Medium.cl, T.Medium_rows, rfl, _, rfl, dr, _, rfl, dget e hi, _, rfl, .inr ⟨g, _, rfl, hg, g0, g, _, _, eg, rfl, hg0, hg, by rw [List.length_map, List.length_map, sizeLine_eq]; omega, fun p H1 s1 h1 => ?_⟩⟩
    have m1 := m.same s1
    obtain ⟨dx1, ea1⟩ := m1.at_
    have e1 := s1 _ _ e
    refine ⟨.ref a, rfl, a, _, dx1, _, .ref dr, rfl, ea1, T.Medium.cl, T.Medium_rows, rfl, _, rfl, dr, _, rfl, dput e1 hi, ?_⟩
    exact q _ ((But.of s1).trans (But.upd (by simp))) (m1.putR e1 (fun j => (h j).mono (Tk.same s1)) (Im.tI (by rw [List.map_append]; exact h1)))
theorem ok_mbegin (T : Tx P K mg) : FnOk P w K mg base CX0 1 T.Medium_begin.f T.Medium_begin.fd ["self", "name"] (spMChg K T.CMedium Md.begin) := by
  refine T.Medium_begin.F.ok sc_Medium_begin (fun vs H Q E h => ?_) (fun cdv A outer s H vs Q E hr h => ?_)
  · obtain ⟨a, dr, ds, df, M, i, rfl, _⟩ := h
    rfl
  · obtain ⟨a, dr, ds, df, M, i, rfl, hi, m, q⟩ := h
    have hu := hu_of hr
    obtain ⟨dx, ea⟩ := m.at_
    obtain ⟨v, e, h⟩ := m.hf
    obtain ⟨vr, er, hvr⟩ := m.hr
    have hv := h i
    refine ⟨_, (pss_cons (ps_if (pt_cmpR op_isN (pe_dget hu (pe_fld (pv 0) rfl) (pv 1) (fun _ _ => rfl)) pe_non (nomark _)) (pss_one (ps_dput hu (pe_fld (pv 0) rfl) (pv 1) (pe_slice sl_tupU (pe_dget hu (pe_fld (pv 0) rfl) (pv 1) (fun _ _ => rfl)) po_none (po_some (pe_dget hu (pe_fld (pv 0) rfl) (pv 1) (fun _ _ => rfl)))) rfl)) pss_nil)
      (pss_one (ps_asg (pe_tup (pa_cons (pe_tup pa_nil) (pa_cons pe_int pa_nil))) (pg_tup rfl (pgs_cons (pg_sub (pe_fld (pv 0) rfl) (pv 1) (set_dict hu)) (pgs_cons (pg_sub (pe_fld (pv 0) rfl) (pv 1) (set_dict hu)) pgs_nil)))))), ?_⟩
    have rest : ∀ (H1 : Hp), But [dr, ds, df] H H1 → Med K T.CMedium a dr ds df H1 ⟨M.rows, M.safe, fset M.former i (some ((M.former i).getD ((M.rows i).take (M.safe i))))⟩ →
        (tAsg (tTup (tCons (tTup tNil) (tCons (tC (.int 0)) tNil))) (gTup K 2 (gCons (gSub (tFld K (tVar 0) "rows") (tVar 1) rSetD) (gCons (gSub (tFld K (tVar 0) "safe") (tVar 1) rSetD) gNil)))) { nx := fun x H' => Q V.non H', rt := Q } [some (.ref a), some (.str (nm i))] H1 := fun H1 b1 m1 => by
      refine ⟨Nat.zero_le _, fun t0 ht0 => ?_⟩
      have s2 : Same H1 (upd H1 t0 (.tup [])) := same_new ht0
      have e2 : upd H1 t0 (.tup []) t0 = some (.tup []) := upd_same
      generalize upd H1 t0 (.tup []) = H2 at s2 e2 ⊢
      refine ⟨(by show 2 ≤ sizeLine; decide), fun t ht => ?_⟩
      have s3 : Same H2 (upd H2 t (.tup [.ref t0, .int 0])) := same_new ht
      have e3 : upd H2 t (.tup [.ref t0, .int 0]) t = some (.tup [.ref t0, .int 0]) := upd_same
      generalize upd H2 t (.tup [.ref t0, .int 0]) = H3 at s3 e3 ⊢
      have m3 := m1.same (s2.trans s3)
      obtain ⟨dx3, ea3⟩ := m3.at_
      obtain ⟨v3, er3, hv3⟩ := m3.hr
      refine ⟨t, _, rfl, SqT.of e3, rfl, _, _, rfl, .ref a, rfl, a, _, dx3, _, .ref dr, rfl, ea3, T.Medium.cl, T.Medium_rows, rfl, _, rfl, dr, _, rfl, dput er3 hi, ?_⟩
      have m4 := m3.putR (i := i) (l := []) er3 hv3 (Im.tI (SqT.of (s3 _ _ e2)))
      have b4 : But [dr, ds, df] H3 (upd H3 dr (.dK (kvF (fset v3 i (.ref t0))))) := But.upd (by simp)
      generalize upd H3 dr (.dK (kvF (fset v3 i (.ref t0)))) = H4 at m4 b4 ⊢
      obtain ⟨dx4, ea4⟩ := m4.at_
      refine ⟨_, _, rfl, .ref a, rfl, a, _, dx4, _, .ref ds, rfl, ea4, T.Medium.cl, T.Medium_safe, rfl, _, rfl, ds, _, rfl, dput m4.hs hi, rfl, ?_⟩
      exact q _ (b1.trans ((But.of (s2.trans s3)).trans (b4.trans (But.upd (by simp))))) (m4.putS (i := i) (n := 0))
    refine ⟨.ref a, rfl, a, _, dx, _, .ref df, rfl, ea, T.Medium.cl, T.Medium_former, rfl, _, rfl, df, _, rfl, dget e hi, rfl, _, rfl, ?_⟩
    cases hfm : M.former i with
    | none =>
      rw [hfm] at hv rest
      have hv' : v i = .non := by
        generalize v i = x at hv
        cases hv
        rfl
      rw [hv']
      refine iteT ?_
      obtain ⟨g0, eg, hg0⟩ := (hvr i).to_tI
      refine ⟨.ref a, rfl, a, _, dx, _, .ref dr, rfl, ea, T.Medium.cl, T.Medium_rows, rfl, _, rfl, dr, _, rfl, dget er hi, .ref a, rfl, a, _, dx, _, .ref ds, rfl, ea, T.Medium.cl, T.Medium_safe, rfl, _, rfl, ds, _, rfl, dget m.hs hi, _, rfl, g0, _, eg, hg0, fun p H1 s1 h1 => ?_⟩
      rw [cut_nat, vI_take] at h1
      have m1 := m.same s1
      obtain ⟨dx1, ea1⟩ := m1.at_
      have e1 := s1 _ _ e
      refine ⟨.ref a, rfl, a, _, dx1, _, .ref df, rfl, ea1, T.Medium.cl, T.Medium_former, rfl, _, rfl, df, _, rfl, dput e1 hi, ?_⟩
      exact rest _ ((But.of s1).trans (But.upd (by simp))) (m1.putF e1 (fun j => (h j).mono (Tk.same s1)) (Im.tI h1))
    | some l =>
      rw [hfm] at hv rest
      obtain ⟨g0, eg, hg0⟩ := Im.to_tI (ns := l) hv
      rw [eg]
      refine iteF ?_
      refine rest H But.refl ?_
      have : fset M.former i (some ((some l).getD ((M.rows i).take (M.safe i)))) = M.former := fset_id hfm
      rw [this]
      exact m
/-- trim: what is too long is refused -/
def spMTrim (K : PySem.W.Frag) (C CR : Addr) : Sp := fun vs H Q E => ∃ a dr ds df M i n, vs = [.ref a, .str (nm i), .int (n : Nat)] ∧ i < 3 ∧ Med K C a dr ds df H M ∧
  (n ≤ (M.rows i).length → ∀ H', But [dr, ds, df] H H' → Med K C a dr ds df H' (M.trim i n) → Q .non H') ∧ ((M.rows i).length < n → ∀ d H', Same H H' → H' d = some (.xd [("value", .int (n : Nat))]) → E (.ref CR) (some d) H')
theorem ok_mtrim (T : Tx P K mg) : FnOk P w K mg base (CX P w) 1 T.Medium_trim.f T.Medium_trim.fd ["self", "name", "long"] (spMTrim K T.CMedium T.CRefused) := by
  refine T.Medium_trim.F.okX sc_Medium_trim (fun vs H Q E h => ?_) (fun cdv A outer s H vs Q E hr h => ?_)
  · obtain ⟨a, dr, ds, df, M, i, n, rfl, _⟩ := h
    rfl
  · obtain ⟨a, dr, ds, df, M, i, n, rfl, hi, m, q, qe⟩ := h
    have hu := hu_of hr
    obtain ⟨dx, ea⟩ := m.at_
    obtain ⟨v, e, h⟩ := m.hr
    obtain ⟨g, eg, hg⟩ := (h i).to_tI
    refine ⟨_, (pss_cons (ps_if (pt_not (pt_chain op_le op_le pe_int (pv 2) (pe_callB call_len_seq (by rfl) T.n_len PySem.boot_len (pa_cons (pe_dget hu (pe_fld (pv 0) rfl) (pv 1) (fun _ _ => rfl)) pa_nil)))) (pss_one (ps_raiseOwn Own.plain_value rfl T.Refused hr (takes_of rfl rfl rfl rfl) (pa_cons (pv 2) pa_nil))) pss_nil)
      (pss_one (ps_asg (pe_tup (pa_cons (pe_slice sl_tupU (pe_dget hu (pe_fld (pv 0) rfl) (pv 1) (fun _ _ => rfl)) po_none (po_some (pv 2))) (pa_cons (pv 2) (pa_cons pe_non pa_nil)))) (pg_tup rfl (pgs_cons (pg_sub (pe_fld (pv 0) rfl) (pv 1) (set_dict hu)) (pgs_cons (pg_sub (pe_fld (pv 0) rfl) (pv 1) (set_dict hu)) (pgs_cons (pg_sub (pe_fld (pv 0) rfl) (pv 1) (set_dict hu)) pgs_nil))))))), ?_⟩
    refine ⟨_, rfl, _, _, rfl, rfl, _, rfl, ?_⟩
    refine ite2 (fun _ => ?_) (fun c => absurd (decide_eq_true (by omega)) c)
    refine ⟨.ref a, rfl, a, _, dx, _, .ref dr, rfl, ea, T.Medium.cl, T.Medium_rows, rfl, _, rfl, dr, _, rfl, dget e hi, g, _, congrArg (fun z => [z]) eg, .inr hg, _, _, rfl, rfl, _, rfl, ?_⟩
    rw [List.length_map]
    refine ite2 (fun c => ?_) (fun c => ?_)
    · have hn : (M.rows i).length < n := by
        refine Classical.byContradiction fun z => ?_
        have z2 : ((n : Nat) : Int) ≤ ((M.rows i).length : Nat) := by omega
        rw [decide_eq_true z2] at c
        cases c
      exact ⟨_, rfl, _, rfl, fun d hd => qe hn d _ (same_new hd) upd_same⟩
    · have hn : n ≤ (M.rows i).length := by
        refine Classical.byContradiction fun z => ?_
        have z2 : ¬ ((n : Nat) : Int) ≤ ((M.rows i).length : Nat) := by omega
        rw [decide_eq_false z2] at c
        exact c rfl
      refine ⟨.ref a, rfl, a, _, dx, _, .ref dr, rfl, ea, T.Medium.cl, T.Medium_rows, rfl, _, rfl, dr, _, rfl, dget e hi, _, rfl, _, rfl, g, _, eg, hg, fun p H1 s1 h1 => ?_⟩
      rw [cut_nat, vI_take] at h1
      refine ⟨_, rfl, (by show 3 ≤ sizeLine; decide), fun t ht => ?_⟩
      have s2 : Same H1 (upd H1 t (.tup [.ref p, .int (n : Nat), .non])) := same_new ht
      have e2 : upd H1 t (.tup [.ref p, .int (n : Nat), .non]) t = some (.tup [.ref p, .int (n : Nat), .non]) := upd_same
      generalize upd H1 t (.tup [.ref p, .int (n : Nat), .non]) = H2 at s2 e2 ⊢
      have m2 := m.same (s1.trans s2)
      obtain ⟨dx2, ea2⟩ := m2.at_
      have er2 := s2 _ _ (s1 _ _ e)
      refine ⟨t, _, rfl, SqT.of e2, rfl, _, _, rfl, .ref a, rfl, a, _, dx2, _, .ref dr, rfl, ea2, T.Medium.cl, T.Medium_rows, rfl, _, rfl, dr, _, rfl, dput er2 hi, ?_⟩
      have m3 := m2.putR (i := i) er2 (fun j => (h j).mono (Tk.same (s1.trans s2))) (Im.tI (Tk.same s2 _ _ h1))
      have b3 : But [dr, ds, df] H2 (upd H2 dr (.dK (kvF (fset v i (.ref p))))) := But.upd (by simp)
      generalize upd H2 dr (.dK (kvF (fset v i (.ref p)))) = H3 at m3 b3 ⊢
      obtain ⟨dx3, ea3⟩ := m3.at_
      refine ⟨_, _, rfl, .ref a, rfl, a, _, dx3, _, .ref ds, rfl, ea3, T.Medium.cl, T.Medium_safe, rfl, _, rfl, ds, _, rfl, dput m3.hs hi, ?_⟩
      have m4 := m3.putS (i := i) (n := n)
      have b4 : But [dr, ds, df] H3 (upd H3 ds (.dK (kvF (fset (fun i => .int (M.safe i : Nat)) i (.int (n : Nat)))))) := But.upd (by simp)
      have hsame : upd H3 ds (.dK (kvF (fset (fun i_1 => V.int ((⟨fset M.rows i ((M.rows i).take n), M.safe, M.former⟩ : Md).safe i_1 : Nat)) i (.int (n : Nat))))) = upd H3 ds (.dK (kvF (fset (fun i => .int (M.safe i : Nat)) i (.int (n : Nat))))) := rfl
      rw [hsame] at m4
      generalize upd H3 ds (.dK (kvF (fset (fun i => .int (M.safe i : Nat)) i (.int (n : Nat))))) = H4 at m4 b4 ⊢
      obtain ⟨dx4, ea4⟩ := m4.at_
      obtain ⟨v4, e4, h4⟩ := m4.hf
      refine ⟨_, _, rfl, .ref a, rfl, a, _, dx4, _, .ref df, rfl, ea4, T.Medium.cl, T.Medium_former, rfl, _, rfl, df, _, rfl, dput e4 hi, rfl, ?_⟩
      exact q hn _ ((But.of (s1.trans s2)).trans (b3.trans (b4.trans (But.upd (by simp))))) (m4.putF (l := none) e4 h4 .non)
end
end K77
end

section
set_option Elab.async false
set_option linter.all false
set_option maxRecDepth 100000
set_option maxHeartbeats 4000000
namespace K77
open PySem L2
theorem putTake {v : Nat → V} {i : Nat} {x : V} (h : i < 3) : putK ((kvF v).take i) (.inr (nm i)) x = (kvF (fset v i x)).take (i + 1) := by
  rcases lt3 h with rfl | rfl | rfl <;> rfl
theorem files_get {i : Nat} {x : V} (h : ([V.str "life", V.str "left", V.str "right"] : List V)[i]? = some x) : i < 3 ∧ x = .str (nm i) := by
  match i, h with
  | 0, h => exact ⟨by decide, (Option.some.inj h).symm⟩
  | 1, h => exact ⟨by decide, (Option.some.inj h).symm⟩
  | 2, h => exact ⟨by decide, (Option.some.inj h).symm⟩
  | n + 3, h => cases h
theorem kv_take_len {v : Nat → V} {i : Nat} : ((kvF v).take i).length < sizeLine := by
  have : (kvF v).length = 3 := rfl
  rw [List.length_take, this, sizeLine_eq]
  omega
section
variable {P : Program} {w : World} {K : PySem.W.Frag} {mg : Str → Option Value} {base : Heap}
def spMInit (K : PySem.W.Frag) (C : Addr) : Sp := fun vs H Q _ => ∃ x dx, vs = [.ref x] ∧ H x = some (.ins C dx []) ∧ ∀ H' dr ds df, But [x] H H' → Med K C x dr ds df H' Md.new → H dr = none → H ds = none → H df = none → Q .non H'
theorem ok_minit (T : Tx P K mg) : FnOk P w K mg base CX0 1 T.Medium_init.f T.Medium_init.fd ["self"] (spMInit K T.CMedium) := by
  refine T.Medium_init.F.ok sc_Medium_init (fun vs H Q E h => ?_) (fun cdv A outer s H vs Q E hr h => ?_)
  · obtain ⟨x, dx, rfl, _⟩ := h
    rfl
  · obtain ⟨x, dx, rfl, ex, q⟩ := h
    refine ⟨_, (pss_cons (ps_fld (pv 0) (pe_dc (own := [("name", 1)]) (g := gName 1) (tt := tYes) rfl sc_Medium_init.nd (pi_tup (C8.pe_gc rfl T.c_FILES)) (blkOk_by (N := ["self", "name"]) (sc := defScope s_Medium_init) (by decide +kernel)) (fun _ _ _ _ _ => (pg_name (i := 1) sc_Medium_init.nd rfl (by first | exact Or.inl rfl | exact Or.inr rfl))) (fun _ _ _ _ _ => pts_nil) (fun _ _ _ _ _ => (pv 1)) (fun _ _ _ _ _ => (pe_tup pa_nil))) rfl)
      (pss_cons (ps_fld (pv 0) (pe_dc (own := [("name", 1)]) (g := gName 1) (tt := tYes) rfl sc_Medium_init.nd (pi_tup (C8.pe_gc rfl T.c_FILES)) (blkOk_by (N := ["self", "name"]) (sc := defScope s_Medium_init) (by decide +kernel)) (fun _ _ _ _ _ => (pg_name (i := 1) sc_Medium_init.nd rfl (by first | exact Or.inl rfl | exact Or.inr rfl))) (fun _ _ _ _ _ => pts_nil) (fun _ _ _ _ _ => (pv 1)) (fun _ _ _ _ _ => pe_int)) rfl)
      (pss_one (ps_fld (pv 0) (pe_dc (own := [("name", 1)]) (g := gName 1) (tt := tYes) rfl sc_Medium_init.nd (pi_tup (C8.pe_gc rfl T.c_FILES)) (blkOk_by (N := ["self", "name"]) (sc := defScope s_Medium_init) (by decide +kernel)) (fun _ _ _ _ _ => (pg_name (i := 1) sc_Medium_init.nd rfl (by first | exact Or.inl rfl | exact Or.inr rfl))) (fun _ _ _ _ _ => pts_nil) (fun _ _ _ _ _ => (pv 1)) (fun _ _ _ _ _ => pe_non)) rfl)))), ?_⟩
    refine ⟨_, rfl, ⟨_, T.FILES_at H⟩, fun D1 h1 => dc_tup (xs := [.str "life", .str "left", .str "right"]) (fun i H' => Same H H' ∧ ∃ v, H' D1 = some (.dK ((kvF v).take i)) ∧ ∀ j, j < i → Im K H' (v j) (tI [])) ⟨same_new h1, fun _ => .non, upd_same, fun j hj => absurd hj (Nat.not_lt_zero _)⟩ (fun i H' _ _ => T.FILES_at H') ?_ ?_⟩
    · rintro i y H' hy ⟨s1, v, e1, hv⟩
      obtain ⟨hi, rfl⟩ := files_get hy
      refine ⟨rfl, _, rfl, Nat.zero_le _, fun p hp => ⟨_, .inr (nm i), rfl, same_new hp _ _ e1, kv_take_len, ?_⟩⟩
      have s2 : Same H' (upd H' p (.tup [])) := same_new hp
      have e2 : upd H' p (.tup []) p = some (.tup []) := upd_same
      have e1' := s2 _ _ e1
      generalize upd H' p (.tup []) = H2 at s2 e2 e1' ⊢
      rw [putTake hi]
      have nt : NoT H2 [D1] := noT_dK e1' noT_nil
      have tk : Tk K H2 (upd H2 D1 (.dK ((kvF (fset v i (.ref p))).take (i + 1)))) := Tk.but (But.upd (S := [D1]) (by simp)) nt
      refine ⟨Same.put (s1.trans s2) h1, _, upd_same, fun j hj => ?_⟩
      unfold fset
      by_cases c : j = i
      · rw [if_pos c]; exact (Im.tI (ns := []) (SqT.of e2)).mono tk
      · rw [if_neg c]; exact ((hv j (by omega)).mono (Tk.same s2)).mono tk
    rintro H1 ⟨s1, v1, e1, hv1⟩
    have hx1 := s1 _ _ ex
    refine ⟨_, rfl, x, _, dx, _, rfl, hx1, T.Medium.cl, T.Medium_rows, (by show (0 : Nat) < 1000; decide), ?_⟩
    have b2 : But [x] H1 (upd H1 x (.ins T.CMedium dx [("rows", .ref D1)])) := But.upd (by simp)
    have e2 : upd H1 x (.ins T.CMedium dx [("rows", .ref D1)]) x = some (.ins T.CMedium dx [("rows", .ref D1)]) := upd_same
    have n1 : D1 ≠ x := fun z => by rw [z, ex] at h1; cases h1
    have nt1 : NoT H1 [x] := noT_ins hx1 noT_nil
    have p1 : putF "rows" (V.ref D1) ([] : List (Str × V)) = ([("rows", V.ref D1)] : List (Str × V)) := rfl
    rw [p1]
    generalize upd H1 x (.ins T.CMedium dx [("rows", .ref D1)]) = H2 at b2 e2 ⊢
    have tk2 := Tk.but (K := K) b2 nt1
    have d1 := b2 _ _ (by simpa using n1) e1
    have b02 : But [x] H H2 := (But.of s1).trans b2
    refine ⟨_, rfl, ⟨_, T.FILES_at H2⟩, fun D2 h2 => dc_tup (xs := [.str "life", .str "left", .str "right"]) (fun i H' => Same H2 H' ∧ H' D2 = some (.dK ((kvF fun _ => .int 0).take i))) ⟨same_new h2, upd_same⟩ (fun i H' _ _ => T.FILES_at H') ?_ ?_⟩
    · rintro i y H' hy ⟨s3, e3⟩
      obtain ⟨hi, rfl⟩ := files_get hy
      refine ⟨rfl, _, rfl, _, .inr (nm i), rfl, e3, kv_take_len, Same.put s3 h2, ?_⟩
      rw [upd_same, putTake hi, fset_id rfl]
    rintro H3 ⟨s3, e3⟩
    have hx3 := s3 _ _ e2
    refine ⟨_, rfl, x, _, dx, _, rfl, hx3, T.Medium.cl, T.Medium_safe, (by show (1 : Nat) < 1000; decide), ?_⟩
    have b4 : But [x] H3 (upd H3 x (.ins T.CMedium dx [("rows", .ref D1), ("safe", .ref D2)])) := But.upd (by simp)
    have e4 : upd H3 x (.ins T.CMedium dx [("rows", .ref D1), ("safe", .ref D2)]) x = some (.ins T.CMedium dx [("rows", .ref D1), ("safe", .ref D2)]) := upd_same
    have n2 : D2 ≠ x := fun z => by rw [z, e2] at h2; cases h2
    have n12 : D1 ≠ D2 := fun z => by rw [← z, d1] at h2; cases h2
    have nt3 : NoT H3 [x] := noT_ins hx3 noT_nil
    have p2 : putF "safe" (V.ref D2) ([("rows", V.ref D1)] : List (Str × V)) = ([("rows", V.ref D1), ("safe", V.ref D2)] : List (Str × V)) := rfl
    rw [p2]
    generalize upd H3 x (.ins T.CMedium dx [("rows", .ref D1), ("safe", .ref D2)]) = H4 at b4 e4 ⊢
    have b24 : But [x] H2 H4 := (But.of s3).trans b4
    have b04 : But [x] H H4 := b02.trans b24
    have d2 := b4 _ _ (by simpa using n2) e3
    have d1' := b24 _ _ (by simpa using n1) d1
    refine ⟨_, rfl, ⟨_, T.FILES_at H4⟩, fun D3 h3 => dc_tup (xs := [.str "life", .str "left", .str "right"]) (fun i H' => Same H4 H' ∧ H' D3 = some (.dK ((kvF fun _ => .non).take i))) ⟨same_new h3, upd_same⟩ (fun i H' _ _ => T.FILES_at H') ?_ ?_⟩
    · rintro i y H' hy ⟨s5, e5⟩
      obtain ⟨hi, rfl⟩ := files_get hy
      refine ⟨rfl, _, rfl, _, .inr (nm i), rfl, e5, kv_take_len, Same.put s5 h3, ?_⟩
      rw [upd_same, putTake hi, fset_id rfl]
    rintro H5 ⟨s5, e5⟩
    have hx5 := s5 _ _ e4
    refine ⟨_, rfl, x, _, dx, _, rfl, hx5, T.Medium.cl, T.Medium_former, (by show (2 : Nat) < 1000; decide), ?_⟩
    have b6 : But [x] H5 (upd H5 x (.ins T.CMedium dx [("rows", .ref D1), ("safe", .ref D2), ("former", .ref D3)])) := But.upd (by simp)
    have e6 : upd H5 x (.ins T.CMedium dx [("rows", .ref D1), ("safe", .ref D2), ("former", .ref D3)]) x = some (.ins T.CMedium dx [("rows", .ref D1), ("safe", .ref D2), ("former", .ref D3)]) := upd_same
    have n3 : D3 ≠ x := fun z => by rw [z, e4] at h3; cases h3
    have n13 : D1 ≠ D3 := fun z => by rw [← z, d1'] at h3; cases h3
    have n23 : D2 ≠ D3 := fun z => by rw [← z, d2] at h3; cases h3
    have nt5 : NoT H5 [x] := noT_ins hx5 noT_nil
    have p3 : putF "former" (V.ref D3) ([("rows", V.ref D1), ("safe", V.ref D2)] : List (Str × V)) = ([("rows", V.ref D1), ("safe", V.ref D2), ("former", V.ref D3)] : List (Str × V)) := rfl
    rw [p3]
    generalize upd H5 x (.ins T.CMedium dx [("rows", .ref D1), ("safe", .ref D2), ("former", .ref D3)]) = H6 at b6 e6 ⊢
    have b46 : But [x] H4 H6 := (But.of s5).trans b6
    have b06 : But [x] H H6 := b04.trans b46
    have tk26 : Tk K H2 H6 := (Tk.same s3).trans ((Tk.but b4 nt3).trans ((Tk.same s5).trans (Tk.but b6 nt5)))
    have tk16 : Tk K H1 H6 := tk2.trans tk26
    refine q H6 D1 D2 D3 b06 ⟨⟨dx, e6⟩, n12, n13, n23, ⟨fun i => if i < 3 then v1 i else v1 0, ?_, fun i => ?_⟩, ?_, ⟨fun _ => .non, b6 _ _ (by simpa using n3) e5, fun i => .non⟩⟩ h1 ?_ ?_
    · have := b46 _ _ (by simpa using n1) d1'
      exact this
    · by_cases c : i < 3
      · show Im K H6 (if i < 3 then v1 i else v1 0) (tI [])
        rw [if_pos c]; exact (hv1 i c).mono tk16
      · show Im K H6 (if i < 3 then v1 i else v1 0) (tI [])
        rw [if_neg c]; exact (hv1 0 (by decide)).mono tk16
    · exact b46 _ _ (by simpa using n2) d2
    · exact b02.back (by simpa using n2) h2
    · exact b04.back (by simpa using n3) h3
end
end K77
end

section
set_option Elab.async false
set_option linter.all false
set_option maxRecDepth 100000
set_option maxHeartbeats 4000000
namespace K77
open PySem L2
theorem rg_chs (s n : Nat) : rgV (s : Int) ((n : Int) + 1) = ((List.range (n + 1 - s)).map fun j => ((s : Nat) : Int) + ((j : Nat) : Int)).map V.int := by
  unfold rgV
  have e : (((n : Nat) : Int) + 1 - (s : Nat)).toNat = n + 1 - s := by omega
  rw [e, List.map_map]
  rfl
theorem chs_mem {M : Md} {i : Nat} {c : Int} (h : c ∈ chs M i) : (c = -1 ∧ ∃ l, M.former i = some l) ∨ (0 ≤ c ∧ c ≤ (M.rows i).length) := by
  unfold chs at h
  rcases List.mem_append.mp h with h | h
  · cases e : M.former i with
    | none => rw [e] at h; simp at h
    | some l => rw [e] at h; simp at h; exact .inl ⟨h, l, rfl⟩
  · obtain ⟨j, hj, rfl⟩ := List.mem_map.mp h
    rw [List.mem_range] at hj
    exact .inr ⟨by omega, by omega⟩
theorem inV_int {c : Int} {l : List Int} (h : c ∈ l) : inV (.int c) (l.map V.int) = true := by
  unfold inV
  rw [List.any_eq_true]
  exact ⟨.int c, List.mem_map.mpr ⟨c, h, rfl⟩, by simp [eqV]⟩
theorem flat_ints (l : List Int) : (l.map V.int).all flatV = true := by
  rw [List.all_eq_true]
  intro x hx
  obtain ⟨n, _, rfl⟩ := List.mem_map.mp hx
  rfl
def cutRow (M : Md) (i : Nat) (c : Int) : List Int := if c = -1 then (M.former i).getD [] else (M.rows i).take c.toNat
/-- a cut, made for the first i names -/
def Md.part (M : Md) (t : Nat → Int) (i : Nat) : Md := ⟨fun j => if j < i then cutRow M j (t j) else [], fun j => if j < i then (cutRow M j (t j)).length else 0, fun _ => none⟩
theorem part_succ (M : Md) (t : Nat → Int) (i : Nat) : M.part t (i + 1) = ⟨fset (M.part t i).rows i (cutRow M i (t i)), fset (M.part t i).safe i (cutRow M i (t i)).length, fun _ => none⟩ := by
  unfold Md.part fset
  congr 1
  · funext j
    by_cases c : j = i
    · subst c
      rw [if_pos (Nat.lt_succ_self _), if_pos rfl]
    · rw [if_neg c]
      show (if j < i + 1 then cutRow M j (t j) else []) = (if j < i then cutRow M j (t j) else [])
      by_cases d : j < i
      · rw [if_pos d, if_pos (by omega)]
      · rw [if_neg d, if_neg (by omega)]
  · funext j
    by_cases c : j = i
    · subst c
      rw [if_pos (Nat.lt_succ_self _), if_pos rfl]
    · rw [if_neg c]
      show (if j < i + 1 then (cutRow M j (t j)).length else 0) = (if j < i then (cutRow M j (t j)).length else 0)
      by_cases d : j < i
      · rw [if_pos d, if_pos (by omega)]
      · rw [if_neg d, if_neg (by omega)]
section
variable {P : Program} {w : World} {K : PySem.W.Frag} {mg : Str → Option Value} {base : Heap}
def spMChoices (K : PySem.W.Frag) (C : Addr) : Sp := fun vs H Q _ => ∃ a dr ds df M B, vs = [.ref a] ∧ Med K C a dr ds df H M ∧ MOk M B ∧ B ≤ 100000 ∧ ∀ v H', Same H H' → Im K H' v (choicesD M) → Q v H'
theorem ok_mchoices (T : Tx P K mg) : FnOk P w K mg base CX0 1 T.Medium_choices.f T.Medium_choices.fd ["self"] (spMChoices K T.CMedium) := by
  refine T.Medium_choices.F.ok sc_Medium_choices (fun vs H Q E h => ?_) (fun cdv A outer s H vs Q E hr h => ?_)
  · obtain ⟨a, dr, ds, df, M, B, rfl, _⟩ := h
    rfl
  · obtain ⟨a, dr, ds, df, M, B, rfl, m, mo, hB, q⟩ := h
    have hu := hu_of hr
    refine ⟨_, (pss_cons (ps_set (i := 1) sc_Medium_choices.nd rfl (by first | exact Or.inl rfl | exact Or.inr rfl) (pe_lst pa_nil))
      (pss_cons (ps_for PassesOwn.never rfl (pi_tup (C8.pe_gc rfl T.c_FILES)) (pg_name (i := 2) sc_Medium_choices.nd rfl (by first | exact Or.inl rfl | exact Or.inr rfl)) (pss_cons (ps_set (i := 3) sc_Medium_choices.nd rfl (by first | exact Or.inl rfl | exact Or.inr rfl) (pe_listRg rfl rfl T.n_list (prg_2 rfl T.n_range (pe_dget hu (pe_fld (pv 0) rfl) (pv 2) (fun _ _ => rfl)) (pe_op op_add (pe_callB call_len_seq (by rfl) T.n_len PySem.boot_len (pa_cons (pe_dget hu (pe_fld (pv 0) rfl) (pv 2) (fun _ _ => rfl)) pa_nil)) pe_int))))
      (pss_one (ps_expr (pe_bm PySem.F.plainAttrs_list PySem.F.slot_list_append PySem.F.type_list_append mt_append (pv 1) (pa_cons (pe_tupleOf rfl T.n_tuple (pe_op op_cat (pe_ifExp (pt_cmpR op_notN (pe_dget hu (pe_fld (pv 0) rfl) (pv 2) (fun _ _ => rfl)) pe_non (nomark _)) (pe_lst (pa_cons (pe_un un_neg pe_int) pa_nil)) (pe_lst pa_nil)) (pv 3))) pa_nil))))))
      (pss_one (ps_ret (pe_tupleOf rfl T.n_tuple (pv 1)))))), ?_⟩
    refine ⟨Nat.zero_le _, fun f hf => ?_⟩
    have s1 : Same H (upd H f (.lst [])) := same_new hf
    have e1 : upd H f (.lst []) f = some (.lst []) := upd_same
    generalize upd H f (.lst []) = H1 at s1 e1 ⊢
    refine ⟨T.aFILES, rfl, ⟨_, T.FILES_at H1⟩, for_tup (xs := [.str "life", .str "left", .str "right"]) (fun i σ H' => ∃ (us : List V) (u v : Option V), σ = [some (.ref a), some (.ref f), u, v] ∧ Same H H' ∧ H' f = some (.lst us) ∧ ImL K H' us ((List.range i).map fun j => tI (chs M j)) ∧ us.length = i ∧ i ≤ 3) ⟨[], none, none, rfl, s1, e1, .nil, rfl, by decide⟩ (fun i σ H' _ _ => T.FILES_at H') ?_ ?_⟩
    · rintro i y σ H2 hy ⟨us, u, v, rfl, s2, e2, i2, hl, hi3⟩
      obtain ⟨hi, rfl⟩ := files_get hy
      have m2 := m.same s2
      obtain ⟨dx, ea⟩ := m2.at_
      obtain ⟨vr, er, hvr⟩ := m2.hr
      obtain ⟨vf, ef, hvf⟩ := m2.hf
      obtain ⟨g0, eg, hg0⟩ := (hvr i).to_tI
      have hml := mo.len i
      have hms := mo.sf i
      refine ⟨.ref a, rfl, a, _, dx, _, .ref ds, rfl, ea, T.Medium.cl, T.Medium_safe, rfl, _, rfl, ds, _, rfl, dget m2.hs hi, .ref a, rfl, a, _, dx, _, .ref dr, rfl, ea, T.Medium.cl, T.Medium_rows, rfl, _, rfl, dr, _, rfl, dget er hi, g0, _, congrArg (fun z => [z]) eg, .inr hg0, _, _, rfl, rfl, _, _, rfl, rfl, ?_, fun l3 hl3 => ?_⟩
      · rw [List.length_map]
        exact ⟨by omega, by omega, by omega, by omega, by omega⟩
      rw [List.length_map, rg_chs]
      have s3 : Same H2 (upd H2 l3 (.lst (((List.range ((M.rows i).length + 1 - M.safe i)).map fun j => ((M.safe i : Nat) : Int) + ((j : Nat) : Int)).map V.int))) := same_new hl3
      have e3 : upd H2 l3 (.lst (((List.range ((M.rows i).length + 1 - M.safe i)).map fun j => ((M.safe i : Nat) : Int) + ((j : Nat) : Int)).map V.int)) l3 = some (.lst (((List.range ((M.rows i).length + 1 - M.safe i)).map fun j => ((M.safe i : Nat) : Int) + ((j : Nat) : Int)).map V.int)) := upd_same
      have hrl : ((List.range ((M.rows i).length + 1 - M.safe i)).map fun j => ((M.safe i : Nat) : Int) + ((j : Nat) : Int)).length ≤ 100001 := by
        rw [List.length_map, List.length_range]
        omega
      have ech : chs M i = (if (M.former i).isSome then [-1] else []) ++ ((List.range ((M.rows i).length + 1 - M.safe i)).map fun j => ((M.safe i : Nat) : Int) + ((j : Nat) : Int)) := rfl
      generalize ((List.range ((M.rows i).length + 1 - M.safe i)).map fun j => ((M.safe i : Nat) : Int) + ((j : Nat) : Int)) = rg at s3 e3 hrl ech ⊢
      generalize upd H2 l3 (.lst (rg.map V.int)) = H3 at s3 e3 ⊢
      have m3 := m2.same s3
      obtain ⟨dx3, ea3⟩ := m3.at_
      have ef3 := s3 _ _ ef
      have hvf3 := (hvf i).mono (Tk.same s3)
      have e23 := s3 _ _ e2
      have fin : ∀ (hd : List Int) (H4 : Hp), Same H3 H4 → ∀ l4, H4 l4 = some (.lst (hd.map V.int)) → hd.length ≤ 1 → chs M i = hd ++ rg → rCat (.ref l4) (.ref l3) H4 fun x H5 => (∃ p xs, x = .ref p ∧ SqL K H5 p xs ∧ ∀ q, H5 q = none → ∃ l xs' y, V.ref f = .ref l ∧ ([.ref q] : List V) = [y] ∧ upd H5 q (.tup xs) l = some (.lst xs') ∧ xs'.length < sizeLine ∧
          ∃ (us : List V) (u v : Option V), ([some (.ref a), some (.ref f), some (.str (nm i)), some (.ref l3)] : St) = [some (.ref a), some (.ref f), u, v] ∧ Same H (upd (upd H5 q (.tup xs)) l (.lst (xs' ++ [y]))) ∧ upd (upd H5 q (.tup xs)) l (.lst (xs' ++ [y])) f = some (.lst us) ∧ ImL K (upd (upd H5 q (.tup xs)) l (.lst (xs' ++ [y]))) us ((List.range (i + 1)).map fun j => tI (chs M j)) ∧ us.length = i + 1 ∧ i + 1 ≤ 3) := fun hd H4 s4 l4 e4 hh hch => by
        refine ⟨l4, l3, _, _, rfl, rfl, e4, s4 _ _ e3, by rw [List.length_map, List.length_map, sizeLine_eq]; omega, fun p hp => ⟨p, _, rfl, SqL.of upd_same, fun q5 hq5 => ?_⟩⟩
        have s5 : Same H4 (upd H4 p (.lst (hd.map V.int ++ rg.map V.int))) := same_new hp
        generalize upd H4 p (.lst (hd.map V.int ++ rg.map V.int)) = H5 at s5 hq5 ⊢
        have s6 : Same H5 (upd H5 q5 (.tup (hd.map V.int ++ rg.map V.int))) := same_new hq5
        have e6 : upd H5 q5 (.tup (hd.map V.int ++ rg.map V.int)) q5 = some (.tup ((chs M i).map V.int)) := by rw [upd_same, hch, List.map_append]
        generalize upd H5 q5 (.tup (hd.map V.int ++ rg.map V.int)) = H6 at s6 e6 ⊢
        have s36 : Same H3 H6 := s4.trans (s5.trans s6)
        have f6 := s36 _ _ e23
        refine ⟨f, us, .ref q5, rfl, rfl, f6, by rw [hl, sizeLine_eq]; omega, us ++ [.ref q5], _, _, rfl, ?_, upd_same, ?_, by rw [List.length_append, hl]; rfl, hi⟩
        · exact Same.put (s2.trans (s3.trans s36)) hf
        · have b7 : But [f] H6 (upd H6 f (.lst (us ++ [.ref q5]))) := But.upd (by simp)
          have tk7 : Tk K H6 (upd H6 f (.lst (us ++ [.ref q5]))) := Tk.but b7 (noT_lst f6 noT_nil)
          rw [List.range_succ, List.map_append]
          exact (i2.mono ((Tk.same (s3.trans s36)).trans tk7)).app (.cons ((Im.tI (SqT.of e6)).mono tk7) .nil)
      refine ⟨_, rfl, .inl ⟨rfl, _, SqL.of e23⟩, .ref a, rfl, a, _, dx3, _, .ref df, rfl, ea3, T.Medium.cl, T.Medium_former, rfl, _, rfl, df, _, rfl, dget ef3 hi, rfl, _, rfl, ?_⟩
      cases hfm : M.former i with
      | none =>
        rw [hfm] at hvf3 ech
        have hv' : vf i = .non := by
          generalize vf i = x at hvf3
          cases hvf3
          rfl
        rw [hv']
        refine iteF ⟨Nat.zero_le _, fun l4 hl4 => ⟨_, rfl, ?_⟩⟩
        obtain ⟨c1, c2, c3, c4, c5, c6, c7, c8, c9, c10⟩ := fin [] _ (same_new hl4) l4 upd_same (by decide) ech
        refine ⟨c1, c2, c3, c4, c5, c6, c7, c8, c9, fun p hp => ?_⟩
        obtain ⟨p', xs', d1, d2, d3⟩ := c10 p hp
        exact .inl ⟨p', xs', d1, d2, fun q hq => d3 q hq⟩
      | some l =>
        rw [hfm] at hvf3 ech
        obtain ⟨g1, eg1, hg1⟩ := Im.to_tI (ns := l) hvf3
        rw [eg1]
        refine iteT ⟨_, rfl, (by show 1 ≤ sizeLine; decide), fun l4 hl4 => ⟨_, rfl, ?_⟩⟩
        obtain ⟨c1, c2, c3, c4, c5, c6, c7, c8, c9, c10⟩ := fin [-1] _ (same_new hl4) l4 upd_same (by decide) ech
        refine ⟨c1, c2, c3, c4, c5, c6, c7, c8, c9, fun p hp => ?_⟩
        obtain ⟨p', xs', d1, d2, d3⟩ := c10 p hp
        exact .inl ⟨p', xs', d1, d2, fun q hq => d3 q hq⟩
    · rintro σ H2 ⟨us, u, v, rfl, s2, e2, i2, hl, hi3⟩
      exact ⟨_, rfl, .inl ⟨f, us, rfl, SqL.of e2, fun t ht => q _ _ (s2.trans (same_new ht)) (.tup (SqT.of upd_same) (i2.mono (Tk.same (same_new ht))))⟩⟩

def spMCut (K : PySem.W.Frag) (C : Addr) : Sp := fun vs H Q _ => ∃ (a dr ds df : Addr) (M : Md) (B : Nat) (g : Addr) (t : Nat → Int), vs = [.ref a, .ref g] ∧ Med K C a dr ds df H M ∧ MOk M B ∧ B ≤ 100000 ∧ SqT K H g [.int (t 0), .int (t 1), .int (t 2)] ∧ (∀ i, i < 3 → t i ∈ chs M i) ∧
  ∀ a' dr' ds' df' H', Same H H' → Med K C a' dr' ds' df' H' (M.part t 3) → Q (.ref a') H'
theorem t3_get {t : Nat → Int} {i : Nat} (h : i < 3) : atI [V.int (t 0), V.int (t 1), V.int (t 2)] (i : Int) = some (.int (t i)) := by
  refine at_nat ?_
  rcases lt3 h with rfl | rfl | rfl <;> rfl
theorem ok_mcut (T : Tx P K mg) (G_Medium_init : FnOk P w K mg base CX0 1 T.Medium_init.f T.Medium_init.fd ["self"] (spMInit K T.CMedium)) (G_Medium_choices : FnOk P w K mg base CX0 1 T.Medium_choices.f T.Medium_choices.fd ["self"] (spMChoices K T.CMedium)) :
    FnOk P w K mg base CX0 3 T.Medium_cut.f T.Medium_cut.fd ["self", "told"] (spMCut K T.CMedium) := by
  refine T.Medium_cut.F.ok sc_Medium_cut (fun vs H Q E h => ?_) (fun cdv A outer s H vs Q E hr h => ?_)
  · obtain ⟨a, dr, ds, df, M, B, g, t, rfl, _⟩ := h
    rfl
  · obtain ⟨a, dr, ds, df, M, B, g, t, rfl, m, mo, hB, hg, ht, q⟩ := h
    have hu := hu_of hr
    refine ⟨_, (pss_cons (ps_par (i := 2) (j := 3) rfl sc_Medium_cut.nd rfl rfl (by decide) rfl rfl (pa_cons (pe_meth0 (pv 0) T.Medium.cl T.Medium_choices.mt G_Medium_choices (hr.mono (by decide)) T.Medium_choices.b .nil pass0) (pa_cons (pe_make0 T.Medium.make G_Medium_init (hr.mono (by decide)) rfl T.Medium.g T.Medium_init.b .nil pass0) pa_nil)) (by rfl))
      (pss_cons (ps_for PassesOwn.never rfl (pi_enumA (by rfl) T.n_enumerate (pa_cons (C8.pe_gc rfl T.c_FILES) pa_nil)) (pg_tup rfl (pgs_cons (pg_name (i := 4) sc_Medium_cut.nd rfl (by first | exact Or.inl rfl | exact Or.inr rfl)) (pgs_cons (pg_name (i := 5) sc_Medium_cut.nd rfl (by first | exact Or.inl rfl | exact Or.inr rfl)) pgs_nil))) (pss_cons (ps_if (pt_cmpR op_notIn_seq (pe_ix ix_tup (pv 1) (pv 4) (fun _ _ => rfl)) (pe_ix ix_tup (pv 2) (pv 4) (fun _ _ => rfl)) (by rfl)) (pss_one (ps_raiseOwn Own.plain_value rfl T.Refused hr takes0 (pa_cons (pv 4) pa_nil))) pss_nil)
      (pss_cons (ps_set (i := 6) sc_Medium_cut.nd rfl (by first | exact Or.inl rfl | exact Or.inr rfl) (pe_ifExp (pt_cmpR op_eq (pe_ix ix_tup (pv 1) (pv 4) (fun _ _ => rfl)) (pe_un un_neg pe_int) (nomark _)) (pe_dget hu (pe_fld (pv 0) rfl) (pv 5) (fun _ _ => rfl)) (pe_slice sl_tupU (pe_dget hu (pe_fld (pv 0) rfl) (pv 5) (fun _ _ => rfl)) po_none (po_some (pe_ix ix_tup (pv 1) (pv 4) (fun _ _ => rfl))))))
      (pss_one (ps_asg (pe_tup (pa_cons (pv 6) (pa_cons (pe_callB call_len_seq (by rfl) T.n_len PySem.boot_len (pa_cons (pv 6) pa_nil)) pa_nil))) (pg_tup rfl (pgs_cons (pg_sub (pe_fld (pv 3) rfl) (pv 5) (set_dict hu)) (pgs_cons (pg_sub (pe_fld (pv 3) rfl) (pv 5) (set_dict hu)) pgs_nil))))))))
      (pss_one (ps_ret (pv 3))))), ?_⟩
    obtain ⟨dx, ea⟩ := m.at_
    refine ⟨.ref a, rfl, a, dx, _, rfl, ea, rfl, a, dr, ds, df, M, B, rfl, m, mo, hB, fun vc H1 s1 hc => ?_⟩
    refine fun a' dx' ha' hdx' hne => ⟨a', dx', rfl, upd_same, fun H2 dr' ds' df' b2 m2 fr fs ff => ⟨rfl, ?_⟩⟩
    have s2 : Same H1 H2 := Same.but (S := [a']) (Same.put (same_new hdx') ha') b2 (by simpa using ha')
    have s01 : Same H1 (upd (upd H1 dx' (.own a')) a' (.ins T.CMedium dx' [])) := Same.put (same_new hdx') ha'
    have fr1 := s01.free fr
    have fs1 := s01.free fs
    have ff1 := s01.free ff
    have hc2 := hc.mono (Tk.same s2)
    unfold choicesD at hc2
    cases hc2 with
    | @tup pc xc _ hpc hlc =>
    refine ⟨_, _, rfl, ?_⟩
    have nw : ∀ c ∈ [dr', ds', df'], H1 c = none := fun c hcm => by
      rcases (by simpa using hcm : c = dr' ∨ c = ds' ∨ c = df') with rfl | rfl | rfl
      · exact fr1
      · exact fs1
      · exact ff1
    have fresh2 : ∀ {H' : Hp}, But [dr', ds', df'] H2 H' → Same H1 H' := fun b => Same.but s2 b nw
    have xcl := hlc.len
    refine ⟨T.aFILES, _, rfl, .inr ⟨T.FILES_at H2, for_enumT (xs := [.str "life", .str "left", .str "right"]) (fun i σ H' => ∃ (u4 u5 u6 : Option V), σ = [some (.ref a), some (.ref g), some (.ref pc), some (.ref a'), u4, u5, u6] ∧ But [dr', ds', df'] H2 H' ∧ Med K T.CMedium a' dr' ds' df' H' (M.part t i)) ⟨none, none, none, rfl, But.refl, m2⟩ (fun i σ H' _ _ => T.FILES_at H') ?_ ?_⟩⟩
    · rintro i y Tt σ H3 hy ⟨u4, u5, u6, rfl, b3, m3⟩ hT
      obtain ⟨hi, rfl⟩ := files_get hy
      have s4 : Same H3 (upd H3 Tt (.tup [.int (i : Nat), .str (nm i)])) := same_new hT
      have e4 : upd H3 Tt (.tup [.int (i : Nat), .str (nm i)]) Tt = some (.tup [.int (i : Nat), .str (nm i)]) := upd_same
      generalize upd H3 Tt (.tup [.int (i : Nat), .str (nm i)]) = H4 at s4 e4 ⊢
      refine ⟨Tt, _, rfl, SqT.of e4, rfl, _, _, rfl, _, _, rfl, rfl, ?_⟩
      have b24 : But [dr', ds', df'] H2 H4 := b3.trans (But.of s4)
      have s14 : Same H1 H4 := fresh2 b24
      have s04 : Same H H4 := s1.trans s14
      have m4 := m3.same s4
      have mm := m.same s04
      have hg4 := Tk.same s04 _ _ hg
      have nt2 : NoT H2 [dr', ds', df'] := m2.noT
      have tk24 : Tk K H2 H4 := Tk.but b24 nt2
      have hpc4 := tk24 _ _ hpc
      -- the choices of this name
      obtain ⟨vch, hvch, hich⟩ : ∃ x, xc[i]? = some x ∧ Im K H2 x (tI (chs M i)) := by
        have hi2 : i < xc.length := by rw [xcl]; exact hi
        obtain ⟨d, hd, hid⟩ := hlc.get (i := i) (v := xc[i]) (by simp [hi2])
        refine ⟨xc[i], by simp [hi2], ?_⟩
        have : d = tI (chs M i) := by
          rcases lt3 hi with rfl | rfl | rfl <;> exact (Option.some.inj hd).symm
        rwa [← this]
      obtain ⟨gc, egc, hgc⟩ := (hich.mono tk24).to_tI
      subst egc
      have htm := ht i hi
      refine ⟨_, rfl, _, rfl, g, _, _, _, rfl, rfl, hg4, t3_get hi, _, rfl, _, rfl, pc, _, _, _, rfl, rfl, hpc4, at_nat hvch, gc, _, rfl, .inr hgc, rfl, flat_ints _, _, rfl, ?_⟩
      rw [inV_int htm]
      refine iteF ?_
      obtain ⟨dxm, eam⟩ := mm.at_
      obtain ⟨vr, er, hvr⟩ := mm.hr
      obtain ⟨vf, ef, hvf⟩ := mm.hf
      -- here
      have rest : ∀ (p : Addr) (H5 : Hp), Same H4 H5 → SqT K H5 p ((cutRow M i (t i)).map V.int) →
          (tAsg (tTup (tCons (tVar 6) (tCons (tCB (fun xs H Q => ∃ p ys, xs = [V.ref p] ∧ (SqL K H p ys ∨ SqT K H p ys) ∧ Q (V.int ys.length) H) (tCons (tVar 6) tNil)) tNil))) (gTup K 2 (gCons (gSub (tFld K (tVar 3) "rows") (tVar 5) rSetD) (gCons (gSub (tFld K (tVar 3) "safe") (tVar 5) rSetD) gNil))))
            { nx := fun σ H' => ∃ (u4 u5 u6 : Option V), σ = [some (.ref a), some (.ref g), some (.ref pc), some (.ref a'), u4, u5, u6] ∧ But [dr', ds', df'] H2 H' ∧ Med K T.CMedium a' dr' ds' df' H' (M.part t (i + 1)), rt := Q, bk := fun _ _ => False, ct := fun _ _ => False } [some (.ref a), some (.ref g), some (.ref pc), some (.ref a'), some (.int (i : Nat)), some (.str (nm i)), some (.ref p)] H5 := fun p H5 s5 hp => by
        refine ⟨_, rfl, _, rfl, p, _, rfl, .inr hp, (by show 2 ≤ sizeLine; decide), fun t6 ht6 => ?_⟩
        rw [List.length_map]
        have s6 : Same H5 (upd H5 t6 (.tup [.ref p, .int ((cutRow M i (t i)).length : Nat)])) := same_new ht6
        have e6 : upd H5 t6 (.tup [.ref p, .int ((cutRow M i (t i)).length : Nat)]) t6 = some (.tup [.ref p, .int ((cutRow M i (t i)).length : Nat)]) := upd_same
        generalize upd H5 t6 (.tup [.ref p, .int ((cutRow M i (t i)).length : Nat)]) = H6 at s6 e6 ⊢
        have s46 : Same H4 H6 := s5.trans s6
        have m6 := m4.same s46
        obtain ⟨dx6, ea6⟩ := m6.at_
        obtain ⟨v6, er6, hv6⟩ := m6.hr
        refine ⟨t6, _, rfl, SqT.of e6, rfl, _, _, rfl, .ref a', rfl, a', _, dx6, _, .ref dr', rfl, ea6, T.Medium.cl, T.Medium_rows, rfl, _, rfl, dr', _, rfl, dput er6 hi, ?_⟩
        have m7 := m6.putR (i := i) er6 hv6 (Im.tI (Tk.same s6 _ _ hp))
        have b7 : But [dr', ds', df'] H6 (upd H6 dr' (.dK (kvF (fset v6 i (.ref p))))) := But.upd (by simp)
        generalize upd H6 dr' (.dK (kvF (fset v6 i (.ref p)))) = H7 at m7 b7 ⊢
        obtain ⟨dx7, ea7⟩ := m7.at_
        refine ⟨_, _, rfl, .ref a', rfl, a', _, dx7, _, .ref ds', rfl, ea7, T.Medium.cl, T.Medium_safe, rfl, _, rfl, ds', _, rfl, dput m7.hs hi, rfl, ?_⟩
        refine ⟨_, _, _, rfl, b24.trans ((But.of s46).trans (b7.trans (But.upd (by simp)))), ?_⟩
        rw [part_succ]
        exact m7.putS (i := i) (n := (cutRow M i (t i)).length)
      refine ⟨_, rfl, _, rfl, g, _, _, _, rfl, rfl, hg4, t3_get hi, _, rfl, rfl, _, rfl, ?_⟩
      refine ite2 (fun c => ?_) (fun c => ?_)
      · have hc1 : t i = -1 := vint_eq c
        rcases chs_mem htm with ⟨_, l, hl⟩ | ⟨h0, _⟩
        · have hvfi := hvf i
          rw [hl] at hvfi
          obtain ⟨gl, egl, hgl⟩ := Im.to_tI (ns := l) hvfi
          refine ⟨.ref a, rfl, a, _, dxm, _, .ref df, rfl, eam, T.Medium.cl, T.Medium_former, rfl, _, rfl, df, _, rfl, dget ef hi, ?_⟩
          rw [egl]
          have ecr : cutRow M i (t i) = l := by
            unfold cutRow
            rw [if_pos hc1, hl]
            rfl
          exact rest gl H4 (Same.refl _) (by rw [ecr]; exact hgl)
        · omega
      · have hc1 : t i ≠ -1 := vint_ne c
        rcases chs_mem htm with ⟨h1, _⟩ | ⟨h0, _⟩
        · exact absurd h1 hc1
        · obtain ⟨gl, egl, hgl⟩ := (hvr i).to_tI
          refine ⟨.ref a, rfl, a, _, dxm, _, .ref dr, rfl, eam, T.Medium.cl, T.Medium_rows, rfl, _, rfl, dr, _, rfl, dget er hi, _, rfl, _, rfl, g, _, _, _, rfl, rfl, hg4, t3_get hi, _, rfl, gl, _, egl, hgl, fun p H5 s5 h5 => ?_⟩
          have ecr : cutRow M i (t i) = (M.rows i).take (t i).toNat := by
            unfold cutRow
            rw [if_neg hc1]
          rw [cut_to h0, vI_take, ← ecr] at h5
          exact rest p H5 s5 h5
    · rintro σ H3 ⟨u4, u5, u6, rfl, b3, m3⟩
      exact ⟨_, rfl, q a' dr' ds' df' H3 (s1.trans (fresh2 b3)) m3⟩
end
end K77
end

section
set_option Elab.async false
set_option linter.all false
set_option maxRecDepth 100000
set_option maxHeartbeats 4000000
namespace K77
open PySem L2
section
variable {X : Cx} {K : PySem.W.Frag}
theorem ix_tupK (h : X.K = K) : IxR X (rIxT K) := by subst h; exact ix_tup
theorem ix_listK (h : X.K = K) : IxR X (rIxL K) := by subst h; exact ix_list
theorem sl_tupUK (h : X.K = K) : SlR X (rSlU K) := by subst h; exact sl_tupU
theorem sl_listK (h : X.K = K) : SlR X (rSlL K) := by subst h; exact sl_list
theorem op_catUK (h : X.K = K) : OpR X (binaryOp .Add) (rCatU K) := by subst h; exact op_catU
def rLenK (K : PySem.W.Frag) : List V → Hp → VK → Prop := fun xs H Q => ∃ p ys, xs = [V.ref p] ∧ (SqL K H p ys ∨ SqT K H p ys) ∧ Q (.int ys.length) H
def rListK (K : PySem.W.Frag) : List V → Hp → VK → Prop := fun xs H Q => ∃ p ys, xs = [V.ref p] ∧ (SqL K H p ys ∨ SqT K H p ys) ∧ ∀ l, H l = none → Q (.ref l) (upd H l (.lst ys))
theorem call_len_seqK (h : X.K = K) : CallR X (.builtin "len") (rLenK K) := by subst h; exact call_len_seq
theorem call_list_ofK (h : X.K = K) : CallR X (.type "list") (rListK K) := by subst h; exact call_list_of
theorem op_eqDK (h : X.K = K) (hu : X.A.units + 64 < cLine) : OpR X (compareOp .Eq) (rEqD K) := by subst h; exact op_eqD hu
theorem op_neDK (h : X.K = K) (hu : X.A.units + 64 < cLine) : OpR X (compareOp .NotEq) (rNeD K) := by subst h; exact op_neD hu
theorem pe_tupleOfK {a : Expr} {ta : TE} {p pos : Pos} (h : X.K = K) (hg : Gl X "tuple") (hm : X.mg "tuple" = none) (ha : PE X a ta) (hs : starEach [a] X.env = (false, eval a X.env) :: starEach [] X.env := by rfl) :
    PE X (.Call (.Name "tuple" p) [a] [] pos) (tThen ta (kTup K)) := by subst h; exact pe_tupleOf hg hm ha hs
end
/-! ### data as the comparison sees them -/
mutual
def toP : D → PyData
  | .non => .none
  | .bl b => .bool b
  | .int i => .int i
  | .str s => .str s
  | .tup xs => .tuple (toPL xs)
def toPL : List D → List PyData
  | [] => []
  | x :: xs => toP x :: toPL xs
end
mutual
theorem Im.dp {K : PySem.W.Frag} {H : Hp} : ∀ {d : D} {v : V}, Im K H v d → Dp K H v (toP d)
  | .non, _, h => by cases h; exact .non
  | .bl b, _, h => by cases h; exact .bl b
  | .int i, _, h => by cases h; exact .int i
  | .str s, _, h => by cases h; exact .str s
  | .tup ds, _, h => by
    cases h with
    | tup hs hl => exact .tup hs (ImL.dp hl)
theorem ImL.dp {K : PySem.W.Frag} {H : Hp} : ∀ {ds : List D} {vs : List V}, ImL K H vs ds → DpAll K H vs (toPL ds)
  | [], _, h => by cases h; exact .nil
  | d :: ds, _, h => by
    cases h with
    | cons h1 h2 => exact .cons (Im.dp h1) (ImL.dp h2)
end
theorem toPL_ints : ∀ l : List Int, toPL (l.map D.int) = l.map PyData.int
  | [] => rfl
  | x :: l => by
    have h := toPL_ints l
    simp only [List.map_cons, toPL, toP, h]
theorem toP_tI (l : List Int) : toP (tI l) = .tuple (l.map PyData.int) := by
  unfold tI
  rw [toP, toPL_ints]
/-- tuples of tuples of ints: they may be compared -/
theorem canTT : ∀ ls : List (List Int), PyData.canLayAll0 (toPL (ls.map tI)) = true
  | [] => by simp [toPL, PyData.canLayAll0]
  | l :: ls => by
    have h := canTT ls
    simp only [List.map_cons, toPL, PyData.canLayAll0, toP_tI, PyData.canLay0, canI, h, Bool.and_self]
theorem depTT : ∀ ls : List (List Int), PyData.depthAll (toPL (ls.map tI)) ≤ 1
  | [] => by simp [toPL, PyData.depthAll]
  | l :: ls => by
    have h := depTT ls
    simp only [List.map_cons, toPL, PyData.depthAll, toP_tI, PyData.depth, depI]
    omega
theorem shTT (ls : List (List Int)) : SeqAt.shaped (.tuple (toPL (ls.map tI))) = true := by
  have h := depTT ls
  unfold SeqAt.shaped
  simp only [PyData.canLay0, canTT, PyData.depth, Bool.true_and]
  exact decide_eq_true (by omega)
theorem shLT (ls : List (List Int)) : SeqAt.shaped (.list (toPL (ls.map tI))) = true := by
  have h := depTT ls
  unfold SeqAt.shaped
  simp only [PyData.canLay0, canTT, PyData.depth, Bool.true_and]
  exact decide_eq_true (by omega)
theorem eqTT (ls : List (List Int)) : PyData.eqv (.tuple (toPL (ls.map tI))) (.tuple (toPL (ls.map tI))) = true := SeqAt.eqv_refl _ (by simp only [PyData.canLay0, canTT])
theorem eqLT (ls : List (List Int)) : PyData.eqv (.list (toPL (ls.map tI))) (.list (toPL (ls.map tI))) = true := SeqAt.eqv_refl _ (by simp only [PyData.canLay0, canTT])
theorem chs_pos {M : Md} {B i : Nat} (h : MOk M B) : 0 < (chs M i).length := by
  have := h.sf i
  unfold chs
  rw [List.length_append, List.length_map, List.length_range]
  omega
theorem chs_len {M : Md} {B i : Nat} (h : MOk M B) : (chs M i).length ≤ B + 2 := by
  have := h.len i
  unfold chs
  rw [List.length_append, List.length_map, List.length_range]
  cases (M.former i).isSome <;> simp <;> omega
theorem chs_part {M : Md} {t : Nat → Int} {i : Nat} (h : i < 3) : chs (M.part t 3) i = [((cutRow M i (t i)).length : Int)] := by
  unfold chs Md.part
  simp only [if_pos h]
  have e : (cutRow M i (t i)).length + 1 - (cutRow M i (t i)).length = 1 := by omega
  rw [e]
  simp [List.range_succ]
theorem part_row {M : Md} {t : Nat → Int} {i : Nat} (h : i < 3) : (M.part t 3).rows i = cutRow M i (t i) := by
  unfold Md.part
  exact if_pos h
theorem part_ok {M : Md} {B : Nat} {t : Nat → Int} (h : MOk M B) : MOk (M.part t 3) B := by
  refine ⟨fun i => ?_, fun i l e => (by cases e), fun i => ?_⟩
  · show (if i < 3 then cutRow M i (t i) else []).length ≤ B
    by_cases c : i < 3
    · rw [if_pos c]
      unfold cutRow
      by_cases d : t i = -1
      · rw [if_pos d]
        cases e : M.former i with
        | none => exact Nat.zero_le _
        | some l => exact h.flen i l e
      · rw [if_neg d, List.length_take]
        have := h.len i
        omega
    · rw [if_neg c]; exact Nat.zero_le _
  · show (if i < 3 then (cutRow M i (t i)).length else 0) ≤ (if i < 3 then cutRow M i (t i) else []).length
    by_cases c : i < 3
    · rw [if_pos c, if_pos c]; exact Nat.le_refl _
    · rw [if_neg c]; exact Nat.zero_le _
def fD (M : Md) (i : Nat) : D := .tup [tI (M.rows i), .int (M.safe i : Nat), formD (M.former i)]
theorem fD_write {M : Md} {i j : Nat} {l : List Int} (h : j ≠ i) : fD (M.write i l) j = fD M j := by simp [fD, Md.write, fset, h]
theorem fD_sync {M : Md} {i j : Nat} (h : j ≠ i) : fD (M.sync i) j = fD M j := by simp [fD, Md.sync, fset, h]
theorem fD_begin {M : Md} {i j : Nat} (h : j ≠ i) : fD (M.begin i) j = fD M j := by simp [fD, Md.begin, fset, h]
theorem fD_trim {M : Md} {i j n : Nat} (h : j ≠ i) : fD (M.trim i n) j = fD M j := by simp [fD, Md.trim, fset, h]
theorem mok_write {M : Md} {i B : Nat} {l : List Int} (h : MOk M B) (hl : l.length ≤ 3) : MOk (M.write i l) (B + 3) :=
  ⟨fset_cases (P := fun _ (x : List Int) => x.length ≤ B + 3) (by have := h.len i; rw [List.length_append]; omega) (fun j => by have := h.len j; omega),
   fun j l' e => by have := h.flen j l' e; omega,
   fun j => by
     have := h.sf j
     show M.safe j ≤ (fset M.rows i (M.rows i ++ l) j).length
     unfold fset
     by_cases c : j = i
     · subst c; rw [if_pos rfl, List.length_append]; omega
     · rw [if_neg c]; omega⟩
theorem mok_sync {M : Md} {i B : Nat} (h : MOk M B) : MOk (M.sync i) (B + 3) :=
  ⟨fun j => by have := h.len j; show (M.rows j).length ≤ _; omega,
   fun j l' e => by
     have e2 : fset M.former i none j = some l' := e
     unfold fset at e2
     by_cases c : j = i
     · rw [if_pos c] at e2; cases e2
     · rw [if_neg c] at e2; have := h.flen j l' e2; omega,
   fun j => by
     have := h.sf j
     show fset M.safe i (M.rows i).length j ≤ (M.rows j).length
     unfold fset
     by_cases c : j = i
     · subst c; rw [if_pos rfl]; exact Nat.le_refl _
     · rw [if_neg c]; exact this⟩
theorem mok_begin {M : Md} {i B : Nat} (h : MOk M B) : MOk (M.begin i) (B + 3) :=
  ⟨fset_cases (P := fun _ (x : List Int) => x.length ≤ B + 3) (Nat.zero_le _) (fun j => by have := h.len j; omega),
   fun j l' e => by
     have e2 : fset M.former i (some ((M.former i).getD ((M.rows i).take (M.safe i)))) j = some l' := e
     unfold fset at e2
     by_cases c : j = i
     · rw [if_pos c] at e2
       have e3 := Option.some.inj e2
       cases hf : M.former i with
       | none =>
         rw [hf] at e3
         have e4 : (M.rows i).take (M.safe i) = l' := e3
         rw [← e4, List.length_take]
         have := h.len i
         omega
       | some l =>
         rw [hf] at e3
         have e4 : l = l' := e3
         rw [← e4]
         have := h.flen i l hf
         omega
     · rw [if_neg c] at e2; have := h.flen j l' e2; omega,
   fun j => by
     have := h.sf j
     show fset M.safe i 0 j ≤ (fset M.rows i [] j).length
     unfold fset
     by_cases c : j = i
     · subst c; rw [if_pos rfl, if_pos rfl]; exact Nat.zero_le _
     · rw [if_neg c, if_neg c]; exact this⟩
theorem mok_trim {M : Md} {i n B : Nat} (h : MOk M B) (hn : n ≤ (M.rows i).length) : MOk (M.trim i n) (B + 3) :=
  ⟨fset_cases (P := fun _ (x : List Int) => x.length ≤ B + 3) (by have := h.len i; rw [List.length_take]; omega) (fun j => by have := h.len j; omega),
   fun j l' e => by
     have e2 : fset M.former i none j = some l' := e
     unfold fset at e2
     by_cases c : j = i
     · rw [if_pos c] at e2; cases e2
     · rw [if_neg c] at e2; have := h.flen j l' e2; omega,
   fun j => by
     have := h.sf j
     show fset M.safe i n j ≤ (fset M.rows i ((M.rows i).take n) j).length
     unfold fset
     by_cases c : j = i
     · subst c; rw [if_pos rfl, if_pos rfl, List.length_take]; omega
     · rw [if_neg c, if_neg c]; exact this⟩
theorem mok_more {M : Md} {B : Nat} (h : MOk M B) : MOk M (B + 3) := ⟨fun j => by have := h.len j; omega, fun j l e => by have := h.flen j l e; omega, h.sf⟩
section
variable {P : Program} {w : World} {K : PySem.W.Frag} {mg : Str → Option Value} {base : Heap}
theorem kb_Medium_write_name_octets (T : Tx P K mg) : KBinds K T.Medium_write.fd ["self", "name", "octets"] ["name", "octets"] (kg 1 2) (kg 1 2) :=
  kbinds_of T.Medium_write.F 1 2 (by decide) (fun kV doc pm an cdv ct us ws h1 h2 => match us, ws, h1, h2 with | [a], [b, c], _, _ => rfl)
theorem kb_Medium_sync_name (T : Tx P K mg) : KBinds K T.Medium_sync.fd ["self", "name"] ["name"] (kg 1 1) (kg 1 1) :=
  kbinds_of T.Medium_sync.F 1 1 (by decide) (fun kV doc pm an cdv ct us ws h1 h2 => match us, ws, h1, h2 with | [a], [b], _, _ => rfl)
theorem kb_Medium_read_name (T : Tx P K mg) : KBinds K T.Medium_read.fd ["self", "name"] ["name"] (kg 1 1) (kg 1 1) :=
  kbinds_of T.Medium_read.F 1 1 (by decide) (fun kV doc pm an cdv ct us ws h1 h2 => match us, ws, h1, h2 with | [a], [b], _, _ => rfl)
theorem kb_Medium_trim_long (T : Tx P K mg) : KBinds K T.Medium_trim.fd ["self", "name", "long"] ["long"] (kg 2 1) (kg 2 1) :=
  kbinds_of T.Medium_trim.F 2 1 (by decide) (fun kV doc pm an cdv ct us ws h1 h2 => match us, ws, h1, h2 with | [a, a2], [b], _, _ => rfl)
theorem noT_app {H : Hp} {S S' : List Addr} (a : NoT H S) (b : NoT H S') : NoT H (S ++ S') := fun c hc => (List.mem_append.mp hc).elim (a c) (b c)
/-- the law's own files -/
def Fil (K : PySem.W.Frag) (H : Hp) (fl : Addr) (M : Md) : Prop := ∃ v, H fl = some (.dK (kvF v)) ∧ ∀ i, Im K H (v i) (fD M i)
theorem Fil.keep {H H' : Hp} {fl : Addr} {M : Md} {S : List Addr} (f : Fil K H fl M) (b : But S H H') (t : Tk K H H') (n : fl ∉ S) : Fil K H' fl M := by
  obtain ⟨v, e, h⟩ := f
  exact ⟨v, b _ _ n e, fun i => (h i).mono t⟩
theorem Fil.put {H : Hp} {fl : Addr} {M M' : Md} {v : Nat → V} {i : Nat} {x : V} (e : H fl = some (.dK (kvF v))) (h : ∀ i, Im K H (v i) (fD M i)) (hx : Im K H x (fD M' i)) (ho : ∀ j, j ≠ i → fD M' j = fD M j) : Fil K (upd H fl (.dK (kvF (fset v i x)))) fl M' := by
  have t : Tk K H (upd H fl (.dK (kvF (fset v i x)))) := Tk.but (But.upd (S := [fl]) (by simp)) (noT_dK e noT_nil)
  refine ⟨_, upd_same, fun j => ?_⟩
  unfold fset
  by_cases c : j = i
  · rw [if_pos c, c]; exact hx.mono t
  · rw [if_neg c, ho j c]; exact (h j).mono t
theorem Fil.row {H : Hp} {M : Md} {x : V} {i : Nat} (h : Im K H x (fD M i)) : ∃ rw gR uF, x = .ref rw ∧ SqT K H rw [.ref gR, .int (M.safe i : Nat), uF] ∧ SqT K H gR ((M.rows i).map V.int) ∧ Im K H uF (formD (M.former i)) := by
  unfold fD at h
  cases h with
  | @tup a xs _ hs hl =>
  cases hl with
  | @cons v1 _ _ _ h1 hl =>
  cases hl with
  | @cons v2 _ _ _ h2 hl =>
  cases hl with
  | @cons v3 _ _ _ h3 hl =>
  cases hl
  cases h2
  obtain ⟨g, rfl, hg⟩ := h1.to_tI
  exact ⟨a, g, v3, rfl, hs, hg, h3⟩
theorem names4 {x : V} (h : x ∈ ([V.str "life", V.str "left", V.str "left", V.str "right"] : List V)) : ∃ i, i < 3 ∧ x = .str (nm i) := by
  simp only [List.mem_cons, List.not_mem_nil, or_false] at h
  rcases h with rfl | rfl | rfl | rfl
  · exact ⟨0, by decide, rfl⟩
  · exact ⟨1, by decide, rfl⟩
  · exact ⟨1, by decide, rfl⟩
  · exact ⟨2, by decide, rfl⟩
def spTurn (K : PySem.W.Frag) (C : Addr) : Sp := fun vs H Q _ => ∃ b a dr ds df fl M B, vs = [.ref b, .ref a, .ref fl] ∧ Box H b ∧ Med K C a dr ds df H M ∧ Fil K H fl M ∧ fl ≠ dr ∧ fl ≠ ds ∧ fl ≠ df ∧ MOk M B ∧ B ≤ 10000 ∧
  ∀ M' H', But [b, dr, ds, df, fl] H H' → Box H' b → Med K C a dr ds df H' M' → Fil K H' fl M' → MOk M' (B + 3) → Q (.bl true) H'
theorem ok_turn (T : Tx P K mg) (G__law_take : FnOk P w K mg base CX0 1 T._law_take.f T._law_take.fd ["box", "many"] spTake) (G__law_pick : FnOk P w K mg base CX0 2 T._law_pick.f T._law_pick.fd ["box", "some"] spPick)
    (G_Medium_write : FnOk P w K mg base CX0 1 T.Medium_write.f T.Medium_write.fd ["self", "name", "octets"] (spMWrite K T.CMedium)) (G_Medium_sync : FnOk P w K mg base CX0 1 T.Medium_sync.f T.Medium_sync.fd ["self", "name"] (spMChg K T.CMedium Md.sync))
    (G_Medium_begin : FnOk P w K mg base CX0 1 T.Medium_begin.f T.Medium_begin.fd ["self", "name"] (spMChg K T.CMedium Md.begin)) (G_Medium_trim : FnOk P w K mg base (CX P w) 1 T.Medium_trim.f T.Medium_trim.fd ["self", "name", "long"] (spMTrim K T.CMedium T.CRefused))
    (G_Medium_choices : FnOk P w K mg base CX0 1 T.Medium_choices.f T.Medium_choices.fd ["self"] (spMChoices K T.CMedium)) (G_Medium_cut : FnOk P w K mg base CX0 3 T.Medium_cut.f T.Medium_cut.fd ["self", "told"] (spMCut K T.CMedium))
    (G_Medium_read : FnOk P w K mg base CX0 1 T.Medium_read.f T.Medium_read.fd ["self", "name"] (spMRead K T.CMedium)) :
    FnOk P w K mg base CX0 4 T._law_medium_turn.f T._law_medium_turn.fd ["box", "medium", "files"] (spTurn K T.CMedium) := by
  refine T._law_medium_turn.F.ok sc__law_medium_turn (fun vs H Q E h => ?_) (fun cdv A outer s H vs Q E hr h => ?_)
  · obtain ⟨b, a, dr, ds, df, fl, M, B, rfl, _⟩ := h
    rfl
  · obtain ⟨b, a, dr, ds, df, fl, M, B, rfl, bx, m, fil, nf1, nf2, nf3, mo, hB, q⟩ := h
    have hu := hu_of hr
    have hu64 := hu64_of hr
    refine ⟨_, (pss_cons (ps_set (i := 3) sc__law_medium_turn.nd rfl (by first | exact Or.inl rfl | exact Or.inr rfl) (pe_call G__law_pick (hr.mono (by decide)) rfl T._law_pick.m T._law_pick.F.kp T._law_pick.b .nil pass0 (pa_cons (pv 0) (pa_cons (pe_lst (pa_cons pe_str (pa_cons pe_str (pa_cons pe_str (pa_cons pe_str pa_nil))))) pa_nil))))
      (pss_cons (ps_par (i := 4) (j := 5) rfl sc__law_medium_turn.nd rfl rfl (by decide) rfl rfl (pa_cons (pe_dget hu (pv 2) (pv 3) (fun _ _ => rfl)) (pa_cons (pe_call G__law_take (hr.mono (by decide)) rfl T._law_take.m T._law_take.F.kp T._law_take.b .nil pass0 (pa_cons (pv 0) (pa_cons pe_int pa_nil))) pa_nil)) (by rfl))
      (pss_cons (ps_if (pt_cmpR op_lt (pv 5) pe_int (nomark _)) (pss_cons (ps_set (i := 6) sc__law_medium_turn.nd rfl (by first | exact Or.inl rfl | exact Or.inr rfl) (pe_tupleOf rfl T.n_tuple (pe_lc (own := [("spot", 12)]) (g := gName 12) (tt := tYes) rfl sc__law_medium_turn.nd (pi_range1 (by rfl) T.n_range (pa_cons (pe_call G__law_take (hr.mono (by decide)) rfl T._law_take.m T._law_take.F.kp T._law_take.b .nil pass0 (pa_cons (pv 0) (pa_cons pe_int pa_nil))) pa_nil)) (blkOk_by (N := ["box", "medium", "files", "name", "row", "way", "some", "long", "wrong", "told", "cut", "due", "spot", "choices", "one", "choice"]) (sc := defScope s__law_medium_turn) (by decide +kernel)) (fun _ _ _ _ _ => (pg_name (i := 12) sc__law_medium_turn.nd rfl (by first | exact Or.inl rfl | exact Or.inr rfl))) (fun _ _ _ _ _ => pts_nil) (fun _ _ _ _ _ => (pe_call G__law_take (hr.mono (by decide)) rfl T._law_take.m T._law_take.F.kp T._law_take.b .nil pass0 (pa_cons (pv 0) (pa_cons pe_int pa_nil)))))))
      (pss_cons (ps_expr (pe_methK0 T.Medium.cl T.Medium_write.mt G_Medium_write (hr.mono (by decide)) (kb_Medium_write_name_octets T) pass0 (pv 1) (pk_cons (pv 3) (pk_cons (pv 6) pk_nil))))
      (pss_one (ps_dput hu (pv 2) (pv 3) (pe_op op_catU (pe_tup (pa_cons (pe_op op_catU (pe_ix ix_tup (pv 4) pe_int (fun _ _ => rfl)) (pv 6)) pa_nil)) (pe_slice sl_tupU (pv 4) (po_some pe_int) po_none)) rfl)))) (pss_one (ps_if (pt_cmpR op_eq (pv 5) pe_int (nomark _)) (pss_cons (ps_expr (pe_methK0 T.Medium.cl T.Medium_sync.mt G_Medium_sync (hr.mono (by decide)) (kb_Medium_sync_name T) pass0 (pv 1) (pk_cons (pv 3) pk_nil)))
      (pss_one (ps_dput hu (pv 2) (pv 3) (pe_tup (pa_cons (pe_ix ix_tup (pv 4) pe_int (fun _ _ => rfl)) (pa_cons (pe_callB call_len_seq (by rfl) T.n_len PySem.boot_len (pa_cons (pe_ix ix_tup (pv 4) pe_int (fun _ _ => rfl)) pa_nil)) (pa_cons pe_non pa_nil)))) rfl))) (pss_one (ps_if (pt_cmpR op_eq (pv 5) pe_int (nomark _)) (pss_cons (ps_expr (pe_meth (pv 1) T.Medium.cl T.Medium_begin.mt G_Medium_begin (hr.mono (by decide)) T.Medium_begin.b .nil pass0 (pa_cons (pv 3) pa_nil)))
      (pss_one (ps_dput hu (pv 2) (pv 3) (pe_tup (pa_cons (pe_tup pa_nil) (pa_cons pe_int (pa_cons (pe_ifExp (pt_cmpR op_notN (pe_ix ix_tup (pv 4) pe_int (fun _ _ => rfl)) pe_non (nomark _)) (pe_ix ix_tup (pv 4) pe_int (fun _ _ => rfl)) (pe_slice sl_tupU (pe_ix ix_tup (pv 4) pe_int (fun _ _ => rfl)) po_none (po_some (pe_ix ix_tup (pv 4) pe_int (fun _ _ => rfl))))) pa_nil)))) rfl))) (pss_one (ps_if (pt_cmpR op_eq (pv 5) pe_int (nomark _)) (pss_cons (ps_set (i := 7) sc__law_medium_turn.nd rfl (by first | exact Or.inl rfl | exact Or.inr rfl) (pe_call G__law_take (hr.mono (by decide)) rfl T._law_take.m T._law_take.F.kp T._law_take.b .nil pass0 (pa_cons (pv 0) (pa_cons (pe_op op_add (pe_callB call_len_seq (by rfl) T.n_len PySem.boot_len (pa_cons (pe_ix ix_tup (pv 4) pe_int (fun _ _ => rfl)) pa_nil)) pe_int) pa_nil))))
      (pss_cons (ps_try_as (i := 8) (tb := _) (ts := _) (Wout := fun _ _ _ _ => False) rfl rfl sc__law_medium_turn.nd rfl rfl ⟨rfl, by decide, Or.inl T.Refused.gC⟩ takes0 (fun W pn xe tk _ => (pss_one (ps_expr (pe_methKS T.Medium.cl T.Medium_trim.mt G_Medium_trim (hr.mono (by decide)) (kb_Medium_trim_long T) (fun σ => passAt tk σ) (pv 1) (pa_cons (pv 3) pa_nil) (pk_cons (pv 7) pk_nil))))) (fun a oe cls d pn hz hf => (pss_one (ps_ret (pe_and (pe_cmpR op_gt (pv 7) (pe_callB (call_len_seqK rfl) (by rfl) T.n_len PySem.boot_len (pa_cons (pe_ix (ix_tupK rfl) (pv 4) pe_int (fun _ _ => rfl)) pa_nil)) (nomark _)) (pe_one (pe_cmpR (op_eqDK rfl hu64) (pe_byOwn T.Refused hz hf (pv 8)) (pv 7) (nomark _))))))))
      (pss_cons (ps_dput hu (pv 2) (pv 3) (pe_tup (pa_cons (pe_slice sl_tupU (pe_ix ix_tup (pv 4) pe_int (fun _ _ => rfl)) po_none (po_some (pv 7))) (pa_cons (pv 7) (pa_cons pe_non pa_nil)))) rfl)
      (pss_one (ps_ret (pe_cmpR op_le (pv 7) (pe_callB call_len_seq (by rfl) T.n_len PySem.boot_len (pa_cons (pe_ix ix_tup (pv 4) pe_int (fun _ _ => rfl)) pa_nil)) (nomark _))))))) (pss_cons (ps_setLc (i := 9) (own := [("choices", 13)]) (g := gName 13) (tt := tYes) rfl sc__law_medium_turn.nd rfl rfl (sw_true rfl rfl rfl (by decide +kernel)) (pi_tup (pe_meth0 (pv 1) T.Medium.cl T.Medium_choices.mt G_Medium_choices (hr.mono (by decide)) T.Medium_choices.b .nil pass0)) (blkOk_by (N := ["box", "medium", "files", "name", "row", "way", "some", "long", "wrong", "told", "cut", "due", "spot", "choices", "one", "choice"]) (sc := defScope s__law_medium_turn) (by decide +kernel)) (fun _ _ _ _ _ => (pg_name (i := 13) sc__law_medium_turn.nd rfl (by first | exact Or.inl rfl | exact Or.inr rfl))) (fun _ _ _ _ _ => pts_nil) (fun _ _ _ _ _ => (pe_call G__law_pick (hr.mono (by decide)) rfl T._law_pick.m T._law_pick.F.kp T._law_pick.b .nil pass0 (pa_cons (pv 0) (pa_cons (pe_callTy (call_list_ofK rfl) (by rfl) T.n_list PyProof.Rows.boot_list (pa_cons (pv 13) pa_nil)) pa_nil)))))
      (pss_cons (ps_set (i := 10) sc__law_medium_turn.nd rfl (by first | exact Or.inl rfl | exact Or.inr rfl) (pe_meth (pv 1) T.Medium.cl T.Medium_cut.mt G_Medium_cut (hr.mono (by decide)) T.Medium_cut.b .nil pass0 (pa_cons (pe_tupleOf rfl T.n_tuple (pv 9)) pa_nil)))
      (pss_cons (ps_setLc (i := 11) (own := [("one", 14), ("choice", 15)]) (g := gTup K 2 (gCons (gName 14) (gCons (gName 15) (gNil)))) (tt := tYes) rfl sc__law_medium_turn.nd rfl rfl (sw_true rfl rfl rfl (by decide +kernel)) (pi_zipM (by rfl) T.n_zip (pa_cons (pe_tup (pa_cons pe_str (pa_cons pe_str (pa_cons pe_str pa_nil)))) (pa_cons (pv 9) pa_nil))) (blkOk_by (N := ["box", "medium", "files", "name", "row", "way", "some", "long", "wrong", "told", "cut", "due", "spot", "choices", "one", "choice"]) (sc := defScope s__law_medium_turn) (by decide +kernel)) (fun _ _ _ _ _ => (pg_tup rfl (pgs_cons (pg_name (i := 14) sc__law_medium_turn.nd rfl (by first | exact Or.inl rfl | exact Or.inr rfl)) (pgs_cons (pg_name (i := 15) sc__law_medium_turn.nd rfl (by first | exact Or.inl rfl | exact Or.inr rfl)) pgs_nil)))) (fun _ _ _ _ _ => pts_nil) (fun _ _ _ _ _ => (pe_ifExp (pt_cmpR op_lt (pv 15) pe_int (nomark _)) (pe_ix (ix_tupK rfl) (pe_dget hu (pv 2) (pv 14) (fun _ _ => rfl)) pe_int (fun _ _ => rfl)) (pe_slice (sl_tupUK rfl) (pe_ix (ix_tupK rfl) (pe_dget hu (pv 2) (pv 14) (fun _ _ => rfl)) pe_int (fun _ _ => rfl)) po_none (po_some (pv 15))))))
      (pss_one (ps_ret (pe_and (pe_cmpR (op_eqD hu64) (pe_lc (own := [("one", 14)]) (g := gName 14) (tt := tYes) rfl sc__law_medium_turn.nd (pi_tup (pe_tup (pa_cons pe_str (pa_cons pe_str (pa_cons pe_str pa_nil))))) (blkOk_by (N := ["box", "medium", "files", "name", "row", "way", "some", "long", "wrong", "told", "cut", "due", "spot", "choices", "one", "choice"]) (sc := defScope s__law_medium_turn) (by decide +kernel)) (fun _ _ _ _ _ => (pg_name (i := 14) sc__law_medium_turn.nd rfl (by first | exact Or.inl rfl | exact Or.inr rfl))) (fun _ _ _ _ _ => pts_nil) (fun _ _ _ _ _ => (pe_meth (pv 10) T.Medium.cl T.Medium_read.mt G_Medium_read (hr.mono (by decide)) T.Medium_read.b .nil pass0 (pa_cons (pv 14) pa_nil)))) (pv 11) (nomark _)) (pe_one (pe_cmpR (op_eqD hu64) (pe_meth0 (pv 10) T.Medium.cl T.Medium_choices.mt G_Medium_choices (hr.mono (by decide)) T.Medium_choices.b .nil pass0) (pe_tupleOf rfl T.n_tuple (pe_lc (own := [("one", 14)]) (g := gName 14) (tt := tYes) rfl sc__law_medium_turn.nd (pi_list (pv 11)) (blkOk_by (N := ["box", "medium", "files", "name", "row", "way", "some", "long", "wrong", "told", "cut", "due", "spot", "choices", "one", "choice"]) (sc := defScope s__law_medium_turn) (by decide +kernel)) (fun _ _ _ _ _ => (pg_name (i := 14) sc__law_medium_turn.nd rfl (by first | exact Or.inl rfl | exact Or.inr rfl))) (fun _ _ _ _ _ => pts_nil) (fun _ _ _ _ _ => (pe_tup (pa_cons (pe_callB (call_len_seqK rfl) (by rfl) T.n_len PySem.boot_len (pa_cons (pv 14) pa_nil)) pa_nil))))) (nomark _))))))))))))))))
      (pss_one (ps_ret pe_bl))))), ?_⟩
    -- name
    refine ⟨_, rfl, (by show 4 ≤ sizeLine; decide), fun l0 hl0 => ?_⟩
    have s1 : Same H (upd H l0 (.lst [.str "life", .str "left", .str "left", .str "right"])) := same_new hl0
    have e1 : upd H l0 (.lst [.str "life", .str "left", .str "left", .str "right"]) l0 = some (.lst [.str "life", .str "left", .str "left", .str "right"]) := upd_same
    generalize upd H l0 (.lst [.str "life", .str "left", .str "left", .str "right"]) = H1 at s1 e1 ⊢
    have nlb : l0 ≠ b := fun z => by
      obtain ⟨g0, t0, e0⟩ := bx
      rw [z, e0] at hl0
      cases hl0
    refine ⟨b, l0, _, rfl, bx.same s1, e1, nlb, by decide, by decide, fun nv H2 hnv b2 bx2 nn2 => ?_⟩
    obtain ⟨i, hi, rfl⟩ := names4 hnv
    have nbt1 := (bx.same s1).noT
    have m1 := m.same s1
    have f1 := fil.keep (S := []) (But.of s1) (Tk.same s1) (by simp)
    have boxNot : ∀ {H : Hp}, Box H b → Med K T.CMedium a dr ds df H M → Fil K H fl M → a ≠ b ∧ dr ≠ b ∧ ds ≠ b ∧ df ≠ b ∧ fl ≠ b := fun {H} bx m f => by
      obtain ⟨g0, t0, e0⟩ := bx
      obtain ⟨dx, ea⟩ := m.at_
      obtain ⟨v, er, _⟩ := m.hr
      obtain ⟨v2, ef, _⟩ := m.hf
      obtain ⟨v3, efl, _⟩ := f
      refine ⟨fun z => (by rw [z, e0] at ea; cases ea), fun z => (by rw [z, e0] at er; cases er), fun z => (by have := m.hs; rw [z, e0] at this; cases this), fun z => (by rw [z, e0] at ef; cases ef), fun z => (by rw [z, e0] at efl; cases efl)⟩
    obtain ⟨nab, nrb, nsb, nffb, nflb⟩ := boxNot bx m fil
    have m2 := m1.keep b2 (Tk.but b2 nbt1) (by simpa using ⟨nab, nrb, nsb, nffb⟩)
    have f2 := f1.keep b2 (Tk.but b2 nbt1) (by simpa using nflb)
    obtain ⟨v2, ev2, hv2⟩ := f2
    have hrow2 := hv2 i
    -- row, way
    refine ⟨_, rfl, _, rfl, fl, _, rfl, dget ev2 hi, ?_⟩
    refine ⟨_, rfl, b, 6, rfl, bx2, by decide, by decide, fun way H3 w0 w6 b3 bx3 nn3 => ?_⟩
    have tk3 : Tk K H2 H3 := Tk.but b3 bx2.noT
    have m3 := m2.keep b3 tk3 (by simpa using ⟨nab, nrb, nsb, nffb⟩)
    have ev3 : H3 fl = some (.dK (kvF v2)) := b3 _ _ (by simpa using nflb) ev2
    have hv3 : ∀ i, Im K H3 (v2 i) (fD M i) := fun j => (hv2 j).mono tk3
    have b03 : But [b] H H3 := (But.of s1).trans (b2.trans b3)
    obtain ⟨rwa, gR, uF, erow, hrow, hgR, huF⟩ := Fil.row (hv3 i)
    rw [erow]
    refine ⟨_, _, rfl, ?_⟩
    obtain ⟨dx3, ea3⟩ := m3.at_
    have hml := mo.len i
    refine ⟨_, rfl, _, _, rfl, rfl, _, rfl, ?_⟩
    -- what is left after the medium has changed and the row is made
    have fin : ∀ (M' : Md) (H4 : Hp) (v : Nat → V) (x : V), But [b, dr, ds, df] H3 H4 → Box H4 b → Med K T.CMedium a dr ds df H4 M' → H4 fl = some (.dK (kvF v)) → (∀ j, Im K H4 (v j) (fD M j)) → Im K H4 x (fD M' i) → (∀ j, j ≠ i → fD M' j = fD M j) → MOk M' (B + 3) →
        Q (.bl true) (upd H4 fl (.dK (kvF (fset v i x)))) := fun M' H4 v x b4 bx4 m4 e4 h4 hx ho mo' => by
      have b5 : But [fl] H4 (upd H4 fl (.dK (kvF (fset v i x)))) := But.upd (by simp)
      have t5 : Tk K H4 (upd H4 fl (.dK (kvF (fset v i x)))) := Tk.but b5 (noT_dK e4 noT_nil)
      have nafl : a ≠ fl := fun z => by
        obtain ⟨dx4, ea4⟩ := m4.at_
        rw [z, e4] at ea4
        cases ea4
      refine q M' _ ((b03.mono (by simp)).trans ((b4.mono (by simp)).trans (b5.mono (by simp)))) ?_ (m4.keep b5 t5 (by simpa using ⟨nafl, Ne.symm nf1, Ne.symm nf2, Ne.symm nf3⟩)) (Fil.put e4 h4 hx ho) mo'
      obtain ⟨g0, t0, e0⟩ := bx4
      exact ⟨g0, t0, b5 _ _ (by simpa using Ne.symm nflb) e0⟩
    have nt3 : NoT H3 [b, dr, ds, df] := noT_app bx3.noT m3.noT
    have hb4 : ∀ {Hx : Hp}, But [dr, ds, df] H3 Hx → But [b, dr, ds, df] H3 Hx := fun b => b.mono (by simp)
    have bxk : ∀ {Hx Hy : Hp}, But [dr, ds, df] Hx Hy → Box Hx b → Box Hy b := fun bb bx => by
      obtain ⟨g0, t0, e0⟩ := bx
      exact ⟨g0, t0, bb _ _ (by simpa using ⟨Ne.symm nrb, Ne.symm nsb, Ne.symm nffb⟩) e0⟩
    refine ite2 (fun c => ?_) (fun c => ?_)
    · -- write
      refine ⟨_, rfl, b, 4, rfl, bx3, by decide, by decide, fun r H4 r0 r1 b4 bx4 nn4 => ⟨r, rfl, by omega, by omega, fun Dd hD => ?_⟩⟩
      have hDb : Dd ≠ b := fun z => by
        obtain ⟨g0, t0, e0⟩ := bx4
        rw [z, e0] at hD
        cases hD
      refine lc_range (fun j H' => ∃ ns : List Int, H' Dd = some (.lst (ns.map V.int)) ∧ ns.length = j ∧ But [b] H4 H' ∧ Box H' b) ⟨[], upd_same, rfl, But.of (same_new hD), bx4.same (same_new hD)⟩ ?_ ?_
      · rintro j H5 hj ⟨ns, e5, hl5, b5, bx5⟩
        refine ⟨rfl, _, rfl, b, 256, rfl, bx5, by decide, by decide, fun r' H6 r0' r1' b6 bx6 nn6 => ⟨_, b6 _ _ (by simpa using hDb) e5, by rw [List.length_map, hl5, sizeLine_eq]; omega, ns ++ [r'], ?_, by rw [List.length_append, hl5]; rfl, But.put (b5.trans b6) hD, ?_⟩⟩
        · rw [upd_same, List.map_append]; rfl
        · obtain ⟨g0, t0, e0⟩ := bx6
          exact ⟨g0, t0, by rw [upd_ne (Ne.symm hDb)]; exact e0⟩
      rintro H5 ⟨ns, e5, hl5, b5, bx5⟩
      refine .inl ⟨Dd, _, rfl, SqL.of e5, fun q5 hq5 => ?_⟩
      have s6 : Same H5 (upd H5 q5 (.tup (ns.map V.int))) := same_new hq5
      have e6 : upd H5 q5 (.tup (ns.map V.int)) q5 = some (.tup (ns.map V.int)) := upd_same
      generalize upd H5 q5 (.tup (ns.map V.int)) = H6 at s6 e6 ⊢
      have b36 : But [b] H3 H6 := b4.trans (b5.trans (But.of s6))
      have m6 := m3.keep b36 (Tk.but b36 bx3.noT) (by simpa using ⟨nab, nrb, nsb, nffb⟩)
      obtain ⟨dx6, ea6⟩ := m6.at_
      have bx6 := bx5.same s6
      refine ⟨.ref a, rfl, a, dx6, _, rfl, ea6, rfl, _, rfl, _, rfl, a, dr, ds, df, M, i, q5, ns, rfl, hi, m6, SqT.of e6, by omega, fun H7 b7 m7 => ?_⟩
      have b37 : But [b, dr, ds, df] H3 H7 := (b36.mono (by simp)).trans (b7.mono (by simp))
      have tk37 : Tk K H3 H7 := Tk.but b37 nt3
      have hq7 : SqT K H7 q5 _ := Tk.but b7 m6.noT _ _ (SqT.of e6)
      have hrow7 := tk37 _ _ hrow
      have hgR7 := tk37 _ _ hgR
      refine ⟨_, rfl, rwa, _, _, .ref gR, rfl, rfl, hrow7, at_0 _ _, _, rfl, gR, q5, _, _, rfl, rfl, hgR7, hq7, by rw [List.length_map, List.length_map, sizeLine_eq]; omega, fun p8 H8 s8 h8 => ⟨(by show 1 ≤ sizeLine; decide), fun t9 ht9 => ?_⟩⟩
      have s9 : Same H8 (upd H8 t9 (.tup [.ref p8])) := same_new ht9
      have e9 : upd H8 t9 (.tup [.ref p8]) t9 = some (.tup [.ref p8]) := upd_same
      generalize upd H8 t9 (.tup [.ref p8]) = H9 at s9 e9 ⊢
      have s79 : Same H7 H9 := s8.trans s9
      refine ⟨_, rfl, _, rfl, rwa, _, rfl, Tk.same s79 _ _ hrow7, fun p10 H10 s10 h10 => ⟨t9, p10, _, _, rfl, rfl, SqT.of (s10 _ _ e9), h10, (by show 1 + 2 ≤ sizeLine; decide), fun p11 H11 s11 h11 => ?_⟩⟩
      have s711 : Same H7 H11 := s79.trans (s10.trans s11)
      have ev7 : H7 fl = some (.dK (kvF v2)) := b37 _ _ (by simpa using ⟨nflb, nf1, nf2, nf3⟩) ev3
      have tk311 : Tk K H3 H11 := tk37.trans (Tk.same s711)
      refine ⟨_, rfl, _, rfl, fl, _, rfl, dput (s711 _ _ ev7) hi, ?_⟩
      refine fin (M.write i ns) H11 v2 (.ref p11) (b37.trans (But.of s711)) ((bxk b7 bx6).same s711) (m7.same s711) (s711 _ _ ev7) (fun j => (hv3 j).mono tk311) ?_ (fun j h => fD_write h) (mok_write mo (by omega))
      unfold fD
      show Im K H11 _ (.tup [tI (fset M.rows i (M.rows i ++ ns) i), .int (M.safe i : Nat), formD (M.former i)])
      rw [fset_eq]
      refine .tup h11 (.cons (Im.tI (Tk.same (s9.trans (s10.trans s11)) _ _ (by rw [List.map_append]; exact h8))) (.cons (.int _) (.cons (huF.mono tk311) .nil)))
    · refine ⟨_, rfl, rfl, _, rfl, ?_⟩
      refine ite2 (fun c2 => ?_) (fun c2 => ?_)
      · -- sync
        refine ⟨.ref a, rfl, a, dx3, _, rfl, ea3, rfl, _, rfl, a, dr, ds, df, M, i, rfl, hi, m3, fun H7 b7 m7 => ?_⟩
        have b37 := hb4 b7
        have tk37 : Tk K H3 H7 := Tk.but b37 nt3
        have hrow7 := tk37 _ _ hrow
        have hgR7 := tk37 _ _ hgR
        refine ⟨_, rfl, rwa, _, _, .ref gR, rfl, rfl, hrow7, at_0 _ _, _, rfl, rwa, _, _, .ref gR, rfl, rfl, hrow7, at_0 _ _, gR, _, rfl, .inr hgR7, (by show 3 ≤ sizeLine; decide), fun t8 ht8 => ?_⟩
        have s8 : Same H7 (upd H7 t8 (.tup [.ref gR, .int ((M.rows i).map V.int).length, .non])) := same_new ht8
        have e8 : upd H7 t8 (.tup [.ref gR, .int ((M.rows i).map V.int).length, .non]) t8 = some (.tup [.ref gR, .int ((M.rows i).length : Nat), .non]) := by rw [upd_same, List.length_map]
        generalize upd H7 t8 (.tup [.ref gR, .int ((M.rows i).map V.int).length, .non]) = H8 at s8 e8 ⊢
        have ev7 : H7 fl = some (.dK (kvF v2)) := b37 _ _ (by simpa using ⟨nflb, nf1, nf2, nf3⟩) ev3
        have tk38 : Tk K H3 H8 := tk37.trans (Tk.same s8)
        refine ⟨_, rfl, _, rfl, fl, _, rfl, dput (s8 _ _ ev7) hi, ?_⟩
        refine fin (M.sync i) H8 v2 (.ref t8) (b37.trans (But.of s8)) ((bxk b7 bx3).same s8) (m7.same s8) (s8 _ _ ev7) (fun j => (hv3 j).mono tk38) ?_ (fun j h => fD_sync h) (mok_sync mo)
        unfold fD
        show Im K H8 _ (.tup [tI (M.rows i), .int (fset M.safe i (M.rows i).length i : Nat), formD (fset M.former i none i)])
        rw [fset_eq, fset_eq]
        exact .tup (SqT.of e8) (.cons (Im.tI (Tk.same s8 _ _ hgR7)) (.cons (.int _) (.cons .non .nil)))
      · refine ⟨_, rfl, rfl, _, rfl, ?_⟩
        refine ite2 (fun c3 => ?_) (fun c3 => ?_)
        · -- begin
          refine ⟨.ref a, rfl, a, dx3, _, rfl, ea3, rfl, _, rfl, a, dr, ds, df, M, i, rfl, hi, m3, fun H7 b7 m7 => ?_⟩
          have b37 := hb4 b7
          have tk37 : Tk K H3 H7 := Tk.but b37 nt3
          have hrow7 := tk37 _ _ hrow
          have hgR7 := tk37 _ _ hgR
          have ev7 : H7 fl = some (.dK (kvF v2)) := b37 _ _ (by simpa using ⟨nflb, nf1, nf2, nf3⟩) ev3
          refine ⟨Nat.zero_le _, fun t8 ht8 => ?_⟩
          have s8 : Same H7 (upd H7 t8 (.tup [])) := same_new ht8
          have e8 : upd H7 t8 (.tup []) t8 = some (.tup []) := upd_same
          generalize upd H7 t8 (.tup []) = H8 at s8 e8 ⊢
          have hrow8 := Tk.same s8 _ _ hrow7
          have hgR8 := Tk.same s8 _ _ hgR7
          have end3 : ∀ (H9 : Hp) (u : V), Same H8 H9 → Im K H9 u (tI ((M.former i).getD ((M.rows i).take (M.safe i)))) → ∀ t, H9 t = none → ∃ a' H4, V.ref fl = V.ref a' ∧ DPut (upd H9 t (.tup [.ref t8, .int 0, u])) a' (.str (nm i)) (.ref t) H4 ∧ Q (.bl true) H4 := fun H9 u s9 hu9 t ht => by
            have s10 : Same H9 (upd H9 t (.tup [.ref t8, .int 0, u])) := same_new ht
            have e10 : upd H9 t (.tup [.ref t8, .int 0, u]) t = some (.tup [.ref t8, .int 0, u]) := upd_same
            generalize upd H9 t (.tup [.ref t8, .int 0, u]) = H10 at s10 e10 ⊢
            have s710 : Same H7 H10 := s8.trans (s9.trans s10)
            have tk310 : Tk K H3 H10 := tk37.trans (Tk.same s710)
            refine ⟨fl, _, rfl, dput (s710 _ _ ev7) hi, ?_⟩
            refine fin (M.begin i) H10 v2 (.ref t) (b37.trans (But.of s710)) ((bxk b7 bx3).same s710) (m7.same s710) (s710 _ _ ev7) (fun j => (hv3 j).mono tk310) ?_ (fun j h => fD_begin h) (mok_begin mo)
            unfold fD
            show Im K H10 _ (.tup [tI (fset M.rows i [] i), .int (fset M.safe i 0 i : Nat), formD (fset M.former i (some ((M.former i).getD ((M.rows i).take (M.safe i)))) i)])
            rw [fset_eq, fset_eq, fset_eq]
            exact .tup (SqT.of e10) (.cons (Im.tI (ns := []) (SqT.of ((s9.trans s10) _ _ e8))) (.cons (.int _) (.cons (hu9.mono (Tk.same s10)) .nil)))
          have huF8 := huF.mono (tk37.trans (Tk.same s8))
          refine ⟨_, rfl, rwa, _, _, _, rfl, rfl, hrow8, at_2 _ _ _ _, rfl, _, rfl, ?_⟩
          cases hfm : M.former i with
          | none =>
            rw [hfm] at huF8 end3
            cases huF8
            refine iteF ?_
            refine ⟨_, rfl, rwa, _, _, .ref gR, rfl, rfl, hrow8, at_0 _ _, _, rfl, rwa, _, _, _, rfl, rfl, hrow8, at_1 _ _ _, _, rfl, gR, _, rfl, hgR8, fun p9 H9 s9 h9 => ⟨(by show 3 ≤ sizeLine; decide), fun t ht => ?_⟩⟩
            rw [cut_nat, vI_take] at h9
            exact ⟨_, rfl, _, rfl, end3 H9 (.ref p9) s9 (Im.tI h9) t ht⟩
          | some l =>
            rw [hfm] at huF8 end3
            obtain ⟨g9, rfl, hg9⟩ := Im.to_tI (ns := l) huF8
            refine iteT ?_
            refine ⟨_, rfl, rwa, _, _, _, rfl, rfl, hrow8, at_2 _ _ _ _, (by show 3 ≤ sizeLine; decide), fun t ht => ?_⟩
            exact ⟨_, rfl, _, rfl, end3 H8 (.ref g9) (Same.refl _) (Im.tI hg9) t ht⟩
        · refine ⟨_, rfl, rfl, _, rfl, ?_⟩
          refine ite2 (fun c4 => ?_) (fun c4 => ?_)
          · -- trim
            have hlenR : ((M.rows i).map V.int).length = (M.rows i).length := List.length_map ..
            refine ⟨_, rfl, _, rfl, rwa, _, _, .ref gR, rfl, rfl, hrow, at_0 _ _, gR, _, rfl, .inr hgR, _, _, rfl, rfl, b, _, rfl, bx3, by omega, by rw [hlenR]; omega, fun r H4 r0 r1 b4 bx4 nn4 => ?_⟩
            rw [hlenR] at r1
            obtain ⟨n, rfl⟩ : ∃ n : Nat, r = n := ⟨r.toNat, by omega⟩
            have b34 : But [b] H3 H4 := b4
            have tk4 : Tk K H3 H4 := Tk.but b4 bx3.noT
            have m4 := m3.keep b4 tk4 (by simpa using ⟨nab, nrb, nsb, nffb⟩)
            have ev4 : H4 fl = some (.dK (kvF v2)) := b4 _ _ (by simpa using nflb) ev3
            obtain ⟨dx4, ea4⟩ := m4.at_
            refine ⟨.ref a, rfl, a, dx4, _, rfl, ea4, rfl, _, rfl, _, rfl, a, dr, ds, df, M, i, n, rfl, hi, m4, fun hn H5 b5 m5 => ?_, fun hn d H5 s5 hd => ⟨true, T.Refused.te, fun _ ae hae => ?_, fun z => nomatch z⟩⟩
            · have b35 : But [b, dr, ds, df] H3 H5 := (b4.mono (by simp)).trans (b5.mono (by simp))
              have tk35 : Tk K H3 H5 := Tk.but b35 nt3
              have hrow5 := tk35 _ _ hrow
              have hgR5 := tk35 _ _ hgR
              have ev5 : H5 fl = some (.dK (kvF v2)) := b35 _ _ (by simpa using ⟨nflb, nf1, nf2, nf3⟩) ev3
              refine ⟨_, rfl, rwa, _, _, .ref gR, rfl, rfl, hrow5, at_0 _ _, _, rfl, _, rfl, gR, _, rfl, hgR5, fun p6 H6 s6 h6 => ⟨_, rfl, (by show 3 ≤ sizeLine; decide), fun t7 ht7 => ?_⟩⟩
              rw [cut_nat, vI_take] at h6
              have s7 : Same H6 (upd H6 t7 (.tup [.ref p6, .int (n : Nat), .non])) := same_new ht7
              have e7 : upd H6 t7 (.tup [.ref p6, .int (n : Nat), .non]) t7 = some (.tup [.ref p6, .int (n : Nat), .non]) := upd_same
              generalize upd H6 t7 (.tup [.ref p6, .int (n : Nat), .non]) = H7 at s7 e7 ⊢
              have s57 : Same H5 H7 := s6.trans s7
              have tk37 : Tk K H3 H7 := tk35.trans (Tk.same s57)
              refine ⟨_, rfl, _, rfl, fl, _, rfl, dput (s57 _ _ ev5) hi, ?_⟩
              have tkf : Tk K H7 (upd H7 fl (.dK (kvF (fset v2 i (.ref t7))))) := Tk.but (But.upd (S := [fl]) (by simp)) (noT_dK (s57 _ _ ev5) noT_nil)
              have gg := fin (M.trim i n) H7 v2 (.ref t7) (b35.trans (But.of s57)) ((bxk b5 bx4).same s57) (m5.same s57) (s57 _ _ ev5) (fun j => (hv3 j).mono tk37) (by
                unfold fD
                show Im K H7 _ (.tup [tI (fset M.rows i ((M.rows i).take n) i), .int (fset M.safe i n i : Nat), formD (fset M.former i none i)])
                rw [fset_eq, fset_eq, fset_eq]
                exact .tup (SqT.of e7) (.cons (Im.tI (Tk.same s7 _ _ h6)) (.cons (.int _) (.cons .non .nil)))) (fun j h => fD_trim h) (mok_trim mo hn)
              refine ⟨_, rfl, _, rfl, rwa, _, _, .ref gR, rfl, rfl, tkf _ _ (tk37 _ _ hrow), at_0 _ _, gR, _, rfl, .inr (tkf _ _ (tk37 _ _ hgR)), _, _, rfl, rfl, ?_⟩
              have ed : decide (((n : Nat) : Int) ≤ (((M.rows i).map V.int).length : Nat)) = true := decide_eq_true (by rw [hlenR]; omega)
              show Q (.bl (decide (((n : Nat) : Int) ≤ (((M.rows i).map V.int).length : Nat)))) _
              rw [ed]
              exact gg
            · have b35 : But [b] H3 H5 := b4.trans (But.of s5)
              have tk35 : Tk K H3 H5 := tk4.trans (Tk.same s5)
              refine ⟨_, rfl, _, rfl, rwa, _, _, .ref gR, rfl, rfl, tk35 _ _ hrow, at_0 _ _, gR, _, rfl, .inr (tk35 _ _ hgR), _, _, rfl, rfl, _, rfl, ?_⟩
              refine ite2 (fun _ => ?_) (fun c => absurd (decide_eq_true (by rw [hlenR]; omega)) c)
              refine ⟨_, rfl, rfl, rfl, d, _, rfl, hd, _, rfl, _, _, .int _, .int _, rfl, rfl, ?_⟩
              have ed : PyData.eqv (.int ((n : Nat) : Int)) (.int ((n : Nat) : Int)) = true := by simp [PyData.eqv]
              rw [ed]
              exact q M H5 ((b03.mono (by simp)).trans (b35.mono (by simp))) (bx4.same s5) (m4.same s5) ⟨v2, s5 _ _ ev4, fun j => (hv3 j).mono tk35⟩ (mok_more mo)
          · -- cut
            refine ⟨.ref a, rfl, a, dx3, _, rfl, ea3, rfl, a, dr, ds, df, M, B, rfl, m3, mo, by omega, fun vc H4 s4 hc => ?_⟩
            unfold choicesD at hc
            cases hc with
            | @tup pc xc _ hpc hlc =>
            have xcl := hlc.len
            have bx4 := bx3.same s4
            refine ⟨pc, rfl, ⟨_, hpc⟩, fun Dd hD => ?_⟩
            have hDb : Dd ≠ b := fun z => by
              obtain ⟨g0, t0, e0⟩ := bx4
              rw [z, e0] at hD
              cases hD
            refine lc_tup (xs := xc) (fun j H' => ∃ ts : List Int, H' Dd = some (.lst (ts.map V.int)) ∧ ts.length = j ∧ (∀ (k : Nat) (c : Int), ts[k]? = some c → c ∈ chs M k) ∧ But [b] H4 H' ∧ Box H' b) ⟨[], upd_same, rfl, fun k c hk => (by simp at hk), But.of (same_new hD), bx4.same (same_new hD)⟩ (fun j H' hj ⟨ts, e5, hl5, hts, b5, bx5⟩ => Tk.but b5 bx4.noT _ _ hpc) ?_ ?_
            · rintro j x H5 hx ⟨ts, e5, hl5, hts, b5, bx5⟩
              have hj3 : j < 3 := by
                have := (List.getElem?_eq_some_iff.mp hx).1
                rw [xcl] at this
                exact this
              obtain ⟨d, hd, hid⟩ := hlc.get hx
              have hdd : d = tI (chs M j) := by
                rcases lt3 hj3 with rfl | rfl | rfl <;> exact (Option.some.inj hd).symm
              subst hdd
              obtain ⟨gc, rfl, hgc⟩ := (hid.mono (Tk.but b5 bx4.noT)).to_tI
              refine ⟨rfl, _, rfl, _, rfl, gc, _, rfl, .inr hgc, fun l6 hl6 => ?_⟩
              have s6 : Same H5 (upd H5 l6 (.lst ((chs M j).map V.int))) := same_new hl6
              have e6 : upd H5 l6 (.lst ((chs M j).map V.int)) l6 = some (.lst ((chs M j).map V.int)) := upd_same
              generalize upd H5 l6 (.lst ((chs M j).map V.int)) = H6 at s6 e6 ⊢
              have nlb6 : l6 ≠ b := fun z => by
                obtain ⟨g0, t0, e0⟩ := bx5
                rw [z, e0] at hl6
                cases hl6
              have hcl := chs_len (i := j) mo
              have hcp := chs_pos (i := j) mo
              refine ⟨b, l6, _, rfl, bx5.same s6, e6, nlb6, by rw [List.length_map]; exact hcp, by rw [List.length_map]; omega, fun v H7 hv b7 bx7 nn7 => ?_⟩
              obtain ⟨c0, hc0, rfl⟩ := List.mem_map.mp hv
              have e7 : H7 Dd = some (.lst (ts.map V.int)) := b7 _ _ (by simpa using hDb) (s6 _ _ e5)
              refine ⟨_, e7, by rw [List.length_map, hl5, sizeLine_eq]; omega, ts ++ [c0], by rw [upd_same, List.map_append]; rfl, by rw [List.length_append, hl5]; rfl, fun k c hk => ?_, But.put (b5.trans ((But.of s6).trans b7)) hD, ?_⟩
              · by_cases hkl : k < ts.length
                · rw [List.getElem?_append_left hkl] at hk
                  exact hts k c hk
                · have hkl2 : k < (ts ++ [c0]).length := (List.getElem?_eq_some_iff.mp hk).1
                  rw [List.length_append] at hkl2
                  have : k = j := by
                    simp only [List.length_cons, List.length_nil] at hkl2
                    omega
                  subst this
                  rw [← hl5] at hk
                  have : c0 = c := by simpa using hk
                  rw [← this]
                  exact hc0
              · obtain ⟨g0, t0, e0⟩ := bx7
                exact ⟨g0, t0, by rw [upd_ne (Ne.symm hDb)]; exact e0⟩
            rintro H5 ⟨ts, e5, hl5, hts, b5, bx5⟩
            rw [xcl] at hl5
            obtain ⟨t0, t1, t2, rfl⟩ : ∃ t0 t1 t2, ts = [t0, t1, t2] := by
              match ts, hl5 with
              | [x, y, z], _ => exact ⟨x, y, z, rfl⟩
            obtain ⟨t, ht0, ht1, ht2⟩ : ∃ t : Nat → Int, t 0 = t0 ∧ t 1 = t1 ∧ t 2 = t2 := ⟨fun k => if k = 0 then t0 else if k = 1 then t1 else t2, rfl, rfl, rfl⟩
            subst ht0 ht1 ht2
            have htm : ∀ i, i < 3 → t i ∈ chs M i := fun i hi => by
              rcases lt3 hi with rfl | rfl | rfl
              · exact hts 0 _ rfl
              · exact hts 1 _ rfl
              · exact hts 2 _ rfl
            have b35 : But [b] H3 H5 := (But.of s4).trans b5
            have tk35 : Tk K H3 H5 := Tk.but b35 bx3.noT
            have m5 := m3.keep b35 tk35 (by simpa using ⟨nab, nrb, nsb, nffb⟩)
            obtain ⟨dx5, ea5⟩ := m5.at_
            refine ⟨.ref a, rfl, a, dx5, _, rfl, ea5, rfl, _, rfl, .inl ⟨Dd, _, rfl, SqL.of e5, fun q6 hq6 => ?_⟩⟩
            have s6 : Same H5 (upd H5 q6 (.tup (([t 0, t 1, t 2] : List Int).map V.int))) := same_new hq6
            have e6 : upd H5 q6 (.tup (([t 0, t 1, t 2] : List Int).map V.int)) q6 = some (.tup [.int (t 0), .int (t 1), .int (t 2)]) := upd_same
            generalize upd H5 q6 (.tup (([t 0, t 1, t 2] : List Int).map V.int)) = H6 at s6 e6 ⊢
            refine ⟨a, dr, ds, df, M, B, q6, t, rfl, m5.same s6, mo, by omega, SqT.of e6, htm, fun a' dr' ds' df' H7 s7 m7 => ?_⟩
            have s57 : Same H5 H7 := s6.trans s7
            have tk37 : Tk K H3 H7 := tk35.trans (Tk.same s57)
            have e57 : H7 Dd = some (.lst (([t 0, t 1, t 2] : List Int).map V.int)) := s57 _ _ e5
            have ev7 : H7 fl = some (.dK (kvF v2)) := s57 _ _ (b35 _ _ (by simpa using nflb) ev3)
            -- due
            refine ⟨(by show 3 ≤ sizeLine; decide), fun t8 ht8 => ?_⟩
            have s8 : Same H7 (upd H7 t8 (.tup [.str "life", .str "left", .str "right"])) := same_new ht8
            have e8 : upd H7 t8 (.tup [.str "life", .str "left", .str "right"]) t8 = some (.tup [.str "life", .str "left", .str "right"]) := upd_same
            generalize upd H7 t8 (.tup [.str "life", .str "left", .str "right"]) = H8 at s8 e8 ⊢
            have s78 : Same H7 H8 := s8
            refine ⟨_, rfl, t8, Dd, _, _, rfl, SqT.of e8, SqL.of (s8 _ _ e57), fun D2 hD2 => ?_⟩
            refine lc_zipM (xs := [.str "life", .str "left", .str "right"]) (ys := ([t 0, t 1, t 2] : List Int).map V.int) (fun j H' => ∃ us, H' D2 = some (.lst us) ∧ ImL K H' us (((List.range j).map fun k => cutRow M k (t k)).map tI) ∧ us.length = j ∧ Same H8 H') rfl ⟨[], upd_same, .nil, rfl, same_new hD2⟩ (fun j H' hj ⟨us, e9, i9, hl9, s9⟩ => ⟨SqT.of (s9 _ _ e8), SqL.of (s9 _ _ (s8 _ _ e57))⟩) ?_ ?_
            · rintro j x y Tt H9 hx hy ⟨us, e9, i9, hl9, s9⟩ hT
              obtain ⟨hj3, rfl⟩ := files_get hx
              have hyt : y = .int (t j) := by
                rcases lt3 hj3 with rfl | rfl | rfl <;> exact (Option.some.inj hy).symm
              subst hyt
              have s10 : Same H9 (upd H9 Tt (.tup [.str (nm j), .int (t j)])) := same_new hT
              have e10 : upd H9 Tt (.tup [.str (nm j), .int (t j)]) Tt = some (.tup [.str (nm j), .int (t j)]) := upd_same
              generalize upd H9 Tt (.tup [.str (nm j), .int (t j)]) = H10 at s10 e10 ⊢
              have s710 : Same H7 H10 := s8.trans (s9.trans s10)
              have tk310 : Tk K H3 H10 := tk37.trans (Tk.same s710)
              have ev10 := s710 _ _ ev7
              obtain ⟨rwj, gRj, uFj, erj, hrj, hgj, huj⟩ := Fil.row ((hv3 j).mono tk310)
              refine ⟨Tt, _, rfl, SqT.of e10, rfl, _, _, rfl, _, _, rfl, rfl, rfl, ?_⟩
              have endj : ∀ (p : V) (H11 : Hp), Same H10 H11 → Im K H11 p (tI (cutRow M j (t j))) → ∃ acc, H11 D2 = some (.lst acc) ∧ acc.length < sizeLine ∧ ∃ us, upd H11 D2 (.lst (acc ++ [p])) D2 = some (.lst us) ∧ ImL K (upd H11 D2 (.lst (acc ++ [p]))) us (((List.range (j + 1)).map fun k => cutRow M k (t k)).map tI) ∧ us.length = j + 1 ∧ Same H8 (upd H11 D2 (.lst (acc ++ [p]))) := fun p H11 s11 hp => by
                have s911 : Same H9 H11 := s10.trans s11
                have e11 := s911 _ _ e9
                have tk11 : Tk K H11 (upd H11 D2 (.lst (us ++ [p]))) := Tk.but (But.upd (S := [D2]) (by simp)) (noT_lst e11 noT_nil)
                refine ⟨us, e11, by rw [hl9, sizeLine_eq]; omega, us ++ [p], upd_same, ?_, by rw [List.length_append, hl9]; rfl, Same.put (s9.trans s911) hD2⟩
                rw [List.range_succ, List.map_append, List.map_append]
                exact (i9.mono ((Tk.same s911).trans tk11)).app (.cons (hp.mono tk11) .nil)
              refine ⟨_, rfl, _, _, rfl, rfl, _, rfl, ?_⟩
              refine ite2 (fun c5 => ?_) (fun c5 => ?_)
              · have hneg : t j < 0 := of_decide_eq_true c5
                rcases chs_mem (htm j hj3) with ⟨hm1, l, hl⟩ | ⟨h0, _⟩
                · rw [hl] at huj
                  obtain ⟨gl, rfl, hgl⟩ := Im.to_tI (ns := l) huj
                  have ecr : cutRow M j (t j) = l := by
                    unfold cutRow
                    rw [if_pos hm1, hl]
                    rfl
                  refine ⟨_, rfl, _, rfl, fl, _, rfl, dget ev10 hj3, rwj, _, _, _, erj, rfl, hrj, at_2 _ _ _ _, ?_⟩
                  exact endj _ H10 (Same.refl _) (by rw [ecr]; exact Im.tI hgl)
                · omega
              · have hnn : ¬ t j < 0 := fun z => c5 (decide_eq_true z)
                have ecr : cutRow M j (t j) = (M.rows j).take (t j).toNat := by
                  unfold cutRow
                  rw [if_neg (by omega)]
                refine ⟨_, rfl, _, rfl, fl, _, rfl, dget ev10 hj3, rwj, _, _, _, erj, rfl, hrj, at_0 _ _, _, rfl, _, rfl, gRj, _, rfl, hgj, fun p H11 s11 h11 => ?_⟩
                rw [cut_to (by omega), vI_take, ← ecr] at h11
                exact endj _ H11 s11 (Im.tI h11)
            rintro H9 ⟨us, e9, i9, hl9, s9⟩
            have er3 : (List.range ([V.str "life", V.str "left", V.str "right"] : List V).length).map (fun k => cutRow M k (t k)) = [cutRow M 0 (t 0), cutRow M 1 (t 1), cutRow M 2 (t 2)] := rfl
            rw [er3] at i9
            have s79 : Same H7 H9 := s8.trans s9
            -- read
            refine ⟨(by show 3 ≤ sizeLine; decide), fun t10 ht10 => ?_⟩
            have s10 : Same H9 (upd H9 t10 (.tup [.str "life", .str "left", .str "right"])) := same_new ht10
            have e10 : upd H9 t10 (.tup [.str "life", .str "left", .str "right"]) t10 = some (.tup [.str "life", .str "left", .str "right"]) := upd_same
            generalize upd H9 t10 (.tup [.str "life", .str "left", .str "right"]) = H10 at s10 e10 ⊢
            have m10 := m7.same (s79.trans s10)
            refine ⟨t10, rfl, ⟨_, SqT.of e10⟩, fun D3 hD3 => lc_tup (xs := [.str "life", .str "left", .str "right"]) (fun j H' => ∃ ws, H' D3 = some (.lst ws) ∧ ImL K H' ws (((List.range j).map fun k => cutRow M k (t k)).map tI) ∧ ws.length = j ∧ Same H10 H') ⟨[], upd_same, .nil, rfl, same_new hD3⟩ (fun j H' hj ⟨ws, e11, i11, hl11, s11⟩ => SqT.of (s11 _ _ e10)) ?_ ?_⟩
            · rintro j x H11 hx ⟨ws, e11, i11, hl11, s11⟩
              obtain ⟨hj3, rfl⟩ := files_get hx
              have m11 := m10.same s11
              obtain ⟨dx11, ea11⟩ := m11.at_
              refine ⟨rfl, .ref a', rfl, a', dx11, _, rfl, ea11, rfl, _, rfl, a', dr', ds', df', _, j, rfl, hj3, m11, fun v hv => ?_⟩
              rw [part_row hj3] at hv
              have tk12 : Tk K H11 (upd H11 D3 (.lst (ws ++ [v]))) := Tk.but (But.upd (S := [D3]) (by simp)) (noT_lst e11 noT_nil)
              refine ⟨ws, e11, by rw [hl11, sizeLine_eq]; omega, ws ++ [v], upd_same, ?_, by rw [List.length_append, hl11]; rfl, Same.put s11 hD3⟩
              rw [List.range_succ, List.map_append, List.map_append]
              exact (i11.mono tk12).app (.cons (hv.mono tk12) .nil)
            rintro H11 ⟨ws, e11, i11, hl11, s11⟩
            rw [er3] at i11
            have s911 : Same H9 H11 := s10.trans s11
            refine ⟨_, rfl, _, _, .lst (SqL.of e11) i11.dp, .lst (SqL.of (s911 _ _ e9)) (i9.mono (Tk.same s911)).dp, shLT _, shLT _, _, rfl, ?_⟩
            rw [eqLT]
            refine iteT ?_
            -- choices
            have m11 := m10.same s11
            obtain ⟨dx11, ea11⟩ := m11.at_
            refine ⟨.ref a', rfl, a', dx11, _, rfl, ea11, rfl, a', dr', ds', df', _, B, rfl, m11, part_ok mo, by omega, fun vc2 H12 s12 hc2 => ?_⟩
            have ecd : choicesD (M.part t 3) = .tup ([[((cutRow M 0 (t 0)).length : Int)], [((cutRow M 1 (t 1)).length : Int)], [((cutRow M 2 (t 2)).length : Int)]].map tI) := by
              unfold choicesD
              rw [chs_part (by decide), chs_part (by decide), chs_part (by decide)]
              rfl
            rw [ecd] at hc2
            have s912 : Same H9 H12 := s911.trans s12
            have e12 := s912 _ _ e9
            refine ⟨_, rfl, D2, rfl, ⟨us, SqL.of e12⟩, fun D4 hD4 => lc_list (xs := us) (fun j H' => ∃ ws, H' D4 = some (.lst ws) ∧ ImL K H' ws ((([cutRow M 0 (t 0), cutRow M 1 (t 1), cutRow M 2 (t 2)].take j).map fun r => [(r.length : Int)]).map tI) ∧ ws.length = j ∧ Same H12 H') ⟨[], upd_same, .nil, rfl, same_new hD4⟩ (fun j H' hj ⟨ws, e13, i13, hl13, s13⟩ => SqL.of (s13 _ _ e12)) ?_ ?_⟩
            · rintro j x H13 hx ⟨ws, e13, i13, hl13, s13⟩
              have i9' := i9.mono (Tk.same (s912.trans s13))
              obtain ⟨d, hd, hid⟩ := i9'.get hx
              rw [List.getElem?_map] at hd
              cases hcr : ([cutRow M 0 (t 0), cutRow M 1 (t 1), cutRow M 2 (t 2)] : List (List Int))[j]? with
              | none => rw [hcr] at hd; cases hd
              | some rj =>
                rw [hcr] at hd
                have hd2 : tI rj = d := Option.some.inj hd
                subst hd2
                obtain ⟨gx, rfl, hgx⟩ := hid.to_tI
                refine ⟨rfl, _, rfl, gx, _, rfl, .inr hgx, (by show 1 ≤ sizeLine; decide), fun p14 hp14 => ?_⟩
                have s14 : Same H13 (upd H13 p14 (.tup [.int ((rj.map V.int).length : Nat)])) := same_new hp14
                have e14 : upd H13 p14 (.tup [.int ((rj.map V.int).length : Nat)]) p14 = some (.tup [.int (rj.length : Nat)]) := by rw [upd_same, List.length_map]
                generalize upd H13 p14 (.tup [.int ((rj.map V.int).length : Nat)]) = H14 at s14 e14 ⊢
                have e14' := s14 _ _ e13
                have tk15 : Tk K H14 (upd H14 D4 (.lst (ws ++ [.ref p14]))) := Tk.but (But.upd (S := [D4]) (by simp)) (noT_lst e14' noT_nil)
                have hj3 : j < 3 := (List.getElem?_eq_some_iff.mp hcr).1
                refine ⟨ws, e14', by rw [hl13, sizeLine_eq]; omega, ws ++ [.ref p14], upd_same, ?_, by rw [List.length_append, hl13]; rfl, Same.put (s13.trans s14) hD4⟩
                rw [take_snoc hcr, List.map_append, List.map_append]
                exact (i13.mono ((Tk.same s14).trans tk15)).app (.cons ((Im.tI (ns := [(rj.length : Int)]) (SqT.of e14)).mono tk15) .nil)
            rintro H13 ⟨ws, e13, i13, hl13, s13⟩
            have husl : us.length = 3 := hl9
            rw [husl] at i13
            refine .inl ⟨D4, ws, rfl, SqL.of e13, fun p14 hp14 => ?_⟩
            have s14 : Same H13 (upd H13 p14 (.tup ws)) := same_new hp14
            have e14 : upd H13 p14 (.tup ws) p14 = some (.tup ws) := upd_same
            generalize upd H13 p14 (.tup ws) = H14 at s14 e14 ⊢
            have hc14 := hc2.mono (Tk.same (s13.trans s14))
            refine ⟨_, _, hc14.dp, .tup (SqT.of e14) (i13.mono (Tk.same s14)).dp, shTT _, shTT _, ?_⟩
            have eqq : PyData.eqv (toP (.tup ([[((cutRow M 0 (t 0)).length : Int)], [((cutRow M 1 (t 1)).length : Int)], [((cutRow M 2 (t 2)).length : Int)]].map tI))) (.tuple (toPL ((([cutRow M 0 (t 0), cutRow M 1 (t 1), cutRow M 2 (t 2)].take 3).map fun r => [(r.length : Int)]).map tI))) = true := eqTT [[((cutRow M 0 (t 0)).length : Int)], [((cutRow M 1 (t 1)).length : Int)], [((cutRow M 2 (t 2)).length : Int)]]
            rw [eqq]
            have s7e : Same H7 H14 := s79.trans (s912.trans (s13.trans s14))
            have tk314 : Tk K H3 H14 := tk37.trans (Tk.same s7e)
            have b314 : But [b] H3 H14 := b35.trans (But.of (s57.trans s7e))
            refine q M H14 ((b03.mono (by simp)).trans (b314.mono (by simp))) (bx5.same (s57.trans s7e)) (m5.same (s57.trans s7e)) ⟨v2, s7e _ _ ev7, fun j => (hv3 j).mono tk314⟩ (mok_more mo)
end
end K77
end

section
set_option Elab.async false
set_option linter.all false
set_option maxRecDepth 100000
set_option maxHeartbeats 4000000
namespace K77
open PySem L2
theorem mok_new : MOk Md.new 0 := ⟨fun _ => Nat.le_refl _, fun _ _ e => (by cases e), fun _ => Nat.le_refl _⟩
def Md5 : Md := ((((Md.new.write 1 [1, 2]).sync 1).begin 1).write 1 [3]).begin 1
theorem mok5 : MOk Md5 15 := mok_begin (mok_write (mok_begin (mok_sync (mok_write mok_new (by decide)))) (by decide))
theorem mok6 : MOk (Md5.sync 1) 18 := mok_sync mok5
theorem chs51 : chs Md5 1 = [-1, 0] := rfl
theorem chs61 : chs (Md5.sync 1) 1 = [0] := rfl
section
variable {P : Program} {w : World} {K : PySem.W.Frag} {mg : Str → Option Value} {base : Heap}
def spBegun : Sp := fun vs H Q _ => vs = [] ∧ ∀ H', Same H H' → Q (.bl true) H'
theorem ok_begun (T : Tx P K mg) (G_Medium_init : FnOk P w K mg base CX0 1 T.Medium_init.f T.Medium_init.fd ["self"] (spMInit K T.CMedium))
    (G_Medium_write : FnOk P w K mg base CX0 1 T.Medium_write.f T.Medium_write.fd ["self", "name", "octets"] (spMWrite K T.CMedium)) (G_Medium_sync : FnOk P w K mg base CX0 1 T.Medium_sync.f T.Medium_sync.fd ["self", "name"] (spMChg K T.CMedium Md.sync))
    (G_Medium_begin : FnOk P w K mg base CX0 1 T.Medium_begin.f T.Medium_begin.fd ["self", "name"] (spMChg K T.CMedium Md.begin))
    (G_Medium_choices : FnOk P w K mg base CX0 1 T.Medium_choices.f T.Medium_choices.fd ["self"] (spMChoices K T.CMedium)) (G_Medium_cut : FnOk P w K mg base CX0 3 T.Medium_cut.f T.Medium_cut.fd ["self", "told"] (spMCut K T.CMedium))
    (G_Medium_read : FnOk P w K mg base CX0 1 T.Medium_read.f T.Medium_read.fd ["self", "name"] (spMRead K T.CMedium)) (G__law_same : FnOk P w K mg base CX0 4 T._law_same.f T._law_same.fd ["told", "due"] (spSame K 3)) :
    FnOk P w K mg base CX0 5 T._law_begun_twice.f T._law_begun_twice.fd [] spBegun := by
  refine T._law_begun_twice.F.ok sc__law_begun_twice (fun vs H Q E h => ?_) (fun cdv A outer s H vs Q E hr h => ?_)
  · obtain ⟨rfl, _⟩ := h
    rfl
  · obtain ⟨rfl, q⟩ := h
    refine ⟨_, (pss_cons (ps_set (i := 0) sc__law_begun_twice.nd rfl (by first | exact Or.inl rfl | exact Or.inr rfl) (pe_make0 T.Medium.make G_Medium_init (hr.mono (by decide)) rfl T.Medium.g T.Medium_init.b .nil pass0))
      (pss_cons (ps_expr (pe_meth (pv 0) T.Medium.cl T.Medium_write.mt G_Medium_write (hr.mono (by decide)) T.Medium_write.b .nil pass0 (pa_cons pe_str (pa_cons (pe_tup (pa_cons pe_int (pa_cons pe_int pa_nil))) pa_nil))))
      (pss_cons (ps_expr (pe_meth (pv 0) T.Medium.cl T.Medium_sync.mt G_Medium_sync (hr.mono (by decide)) T.Medium_sync.b .nil pass0 (pa_cons pe_str pa_nil)))
      (pss_cons (ps_expr (pe_meth (pv 0) T.Medium.cl T.Medium_begin.mt G_Medium_begin (hr.mono (by decide)) T.Medium_begin.b .nil pass0 (pa_cons pe_str pa_nil)))
      (pss_cons (ps_expr (pe_meth (pv 0) T.Medium.cl T.Medium_write.mt G_Medium_write (hr.mono (by decide)) T.Medium_write.b .nil pass0 (pa_cons pe_str (pa_cons (pe_tup (pa_cons pe_int pa_nil)) pa_nil))))
      (pss_cons (ps_expr (pe_meth (pv 0) T.Medium.cl T.Medium_begin.mt G_Medium_begin (hr.mono (by decide)) T.Medium_begin.b .nil pass0 (pa_cons pe_str pa_nil)))
      (pss_cons (ps_set (i := 1) sc__law_begun_twice.nd rfl (by first | exact Or.inl rfl | exact Or.inr rfl) (pe_tup (pa_cons (pe_ix ix_tup (pe_meth0 (pv 0) T.Medium.cl T.Medium_choices.mt G_Medium_choices (hr.mono (by decide)) T.Medium_choices.b .nil pass0) pe_int (fun _ _ => rfl)) (pa_cons (pe_meth (pe_meth (pv 0) T.Medium.cl T.Medium_cut.mt G_Medium_cut (hr.mono (by decide)) T.Medium_cut.b .nil pass0 (pa_cons (pe_tup (pa_cons pe_int (pa_cons (pe_op op_sub pe_int pe_int) (pa_cons pe_int pa_nil)))) pa_nil)) T.Medium.cl T.Medium_read.mt G_Medium_read (hr.mono (by decide)) T.Medium_read.b .nil pass0 (pa_cons pe_str pa_nil)) (pa_cons (pe_meth (pe_meth (pv 0) T.Medium.cl T.Medium_cut.mt G_Medium_cut (hr.mono (by decide)) T.Medium_cut.b .nil pass0 (pa_cons (pe_tup (pa_cons pe_int (pa_cons pe_int (pa_cons pe_int pa_nil)))) pa_nil)) T.Medium.cl T.Medium_read.mt G_Medium_read (hr.mono (by decide)) T.Medium_read.b .nil pass0 (pa_cons pe_str pa_nil)) pa_nil)))))
      (pss_cons (ps_expr (pe_meth (pv 0) T.Medium.cl T.Medium_sync.mt G_Medium_sync (hr.mono (by decide)) T.Medium_sync.b .nil pass0 (pa_cons pe_str pa_nil)))
      (pss_one (ps_ret (pe_call G__law_same (hr.mono (by decide)) rfl T._law_same.m T._law_same.F.kp T._law_same.b .nil pass0 (pa_cons (pe_op op_catU (pv 1) (pe_tup (pa_cons (pe_ix ix_tup (pe_meth0 (pv 0) T.Medium.cl T.Medium_choices.mt G_Medium_choices (hr.mono (by decide)) T.Medium_choices.b .nil pass0) pe_int (fun _ _ => rfl)) pa_nil))) (pa_cons (pe_tup (pa_cons (pe_tup (pa_cons (pe_op op_sub pe_int pe_int) (pa_cons pe_int pa_nil))) (pa_cons (pe_tup (pa_cons pe_int (pa_cons pe_int pa_nil))) (pa_cons (pe_tup pa_nil) (pa_cons (pe_tup (pa_cons pe_int pa_nil)) pa_nil))))) pa_nil))))))))))))), ?_⟩
    refine fun a dx ha hdx hne => ⟨a, dx, rfl, upd_same, fun H1 dr ds df b1 m1 fr fs ff => ⟨rfl, ?_⟩⟩
    have s0 : Same H (upd (upd H dx (.own a)) a (.ins T.CMedium dx [])) := Same.put (same_new hdx) ha
    have s1 : Same H H1 := Same.but s0 b1 (by simpa using ha)
    have nw : ∀ c ∈ [dr, ds, df], H c = none := fun c hc => by
      rcases (by simpa using hc : c = dr ∨ c = ds ∨ c = df) with rfl | rfl | rfl
      · exact s0.free fr
      · exact s0.free fs
      · exact s0.free ff
    -- write
    obtain ⟨dx1, ea1⟩ := m1.at_
    refine ⟨_, rfl, a, dx1, _, rfl, ea1, rfl, (by show 2 ≤ sizeLine; decide), fun t1 ht1 => ⟨a, dr, ds, df, Md.new, 1, t1, [1, 2], rfl, by decide, m1.same (same_new ht1), SqT.of upd_same, by decide, fun H2 b2 m2 => ?_⟩⟩
    have s2 : Same H H2 := Same.but (s1.trans (same_new ht1)) b2 nw
    -- sync
    obtain ⟨dx2, ea2⟩ := m2.at_
    refine ⟨_, rfl, a, dx2, _, rfl, ea2, rfl, a, dr, ds, df, _, 1, rfl, by decide, m2, fun H3 b3 m3 => ?_⟩
    have s3 : Same H H3 := Same.but s2 b3 nw
    -- begin
    obtain ⟨dx3, ea3⟩ := m3.at_
    refine ⟨_, rfl, a, dx3, _, rfl, ea3, rfl, a, dr, ds, df, _, 1, rfl, by decide, m3, fun H4 b4 m4 => ?_⟩
    have s4 : Same H H4 := Same.but s3 b4 nw
    -- write
    obtain ⟨dx4, ea4⟩ := m4.at_
    refine ⟨_, rfl, a, dx4, _, rfl, ea4, rfl, (by show 1 ≤ sizeLine; decide), fun t5 ht5 => ⟨a, dr, ds, df, _, 1, t5, [3], rfl, by decide, m4.same (same_new ht5), SqT.of upd_same, by decide, fun H5 b5 m5 => ?_⟩⟩
    have s5 : Same H H5 := Same.but (s4.trans (same_new ht5)) b5 nw
    -- begin
    obtain ⟨dx5, ea5⟩ := m5.at_
    refine ⟨_, rfl, a, dx5, _, rfl, ea5, rfl, a, dr, ds, df, _, 1, rfl, by decide, m5, fun H6 b6 m6 => ?_⟩
    have s6 : Same H H6 := Same.but s5 b6 nw
    replace m6 : Med K T.CMedium a dr ds df H6 Md5 := m6
    -- choices()[1]
    obtain ⟨dx6, ea6⟩ := m6.at_
    refine ⟨_, rfl, a, dx6, _, rfl, ea6, rfl, a, dr, ds, df, Md5, 15, rfl, m6, mok5, by decide, fun vc H7 s7 hc => ?_⟩
    unfold choicesD at hc
    cases hc with
    | @tup pc xc _ hpc hlc =>
    cases hlc with
    | @cons c0 _ _ _ hc0 hlc =>
    cases hlc with
    | @cons c1 _ _ _ hc1 hlc =>
    rw [chs51] at hc1
    refine ⟨pc, _, _, c1, rfl, rfl, hpc, at_1 _ _ _, ?_⟩
    -- cut((0, -1, 0)).read
    have m7 := m6.same s7
    obtain ⟨dx7, ea7⟩ := m7.at_
    refine ⟨_, rfl, a, dx7, _, rfl, ea7, rfl, _, _, rfl, rfl, (by show 3 ≤ sizeLine; decide), fun t8 ht8 => ⟨a, dr, ds, df, Md5, 15, t8, fun i => if i = 1 then 0 - 1 else 0, rfl, m7.same (same_new ht8), mok5, by decide, SqT.of upd_same, fun i hi => ?_, fun a' dr' ds' df' H8 s8 m8 => ?_⟩⟩
    · rcases lt3 hi with rfl | rfl | rfl
      · show (0 : Int) ∈ chs Md5 0
        decide
      · show (0 - 1 : Int) ∈ chs Md5 1
        decide
      · show (0 : Int) ∈ chs Md5 2
        decide
    obtain ⟨dx8, ea8⟩ := m8.at_
    refine ⟨a', dx8, _, rfl, ea8, rfl, a', dr', ds', df', _, 1, rfl, by decide, m8, fun v1 hv1 => ?_⟩
    have er1 : (Md5.part (fun i => if i = 1 then 0 - 1 else 0) 3).rows 1 = [1, 2] := rfl
    rw [er1] at hv1
    have s78 : Same H7 H8 := (same_new ht8).trans s8
    -- cut((0, 0, 0)).read
    have m78 := m7.same s78
    obtain ⟨dxb, eab⟩ := m78.at_
    refine ⟨_, rfl, a, dxb, _, rfl, eab, rfl, (by show 3 ≤ sizeLine; decide), fun t9 ht9 => ⟨a, dr, ds, df, Md5, 15, t9, fun _ => 0, rfl, m78.same (same_new ht9), mok5, by decide, SqT.of upd_same, fun i hi => ?_, fun a2 dr2 ds2 df2 H9 s9 m9 => ?_⟩⟩
    · rcases lt3 hi with rfl | rfl | rfl
      · show (0 : Int) ∈ chs Md5 0
        decide
      · show (0 : Int) ∈ chs Md5 1
        decide
      · show (0 : Int) ∈ chs Md5 2
        decide
    obtain ⟨dx9, ea9⟩ := m9.at_
    refine ⟨a2, dx9, _, rfl, ea9, rfl, a2, dr2, ds2, df2, _, 1, rfl, by decide, m9, fun v2 hv2 => ?_⟩
    have er2 : (Md5.part (fun _ => 0) 3).rows 1 = [] := rfl
    rw [er2] at hv2
    have s89 : Same H8 H9 := (same_new ht9).trans s9
    have s79 : Same H7 H9 := s78.trans s89
    have hc1' := hc1.mono (Tk.same s79)
    have hv1' := hv1.mono (Tk.same s89)
    refine ⟨(by show 3 ≤ sizeLine; decide), fun t10 ht10 => ?_⟩
    have s10 : Same H9 (upd H9 t10 (.tup [c1, v1, v2])) := same_new ht10
    have e10 : upd H9 t10 (.tup [c1, v1, v2]) t10 = some (.tup [c1, v1, v2]) := upd_same
    generalize upd H9 t10 (.tup [c1, v1, v2]) = H10 at s10 e10 ⊢
    -- sync
    have s610 : Same H6 H10 := s7.trans (s79.trans s10)
    have m10 := m6.same s610
    obtain ⟨dx10, ea10⟩ := m10.at_
    refine ⟨_, rfl, a, dx10, _, rfl, ea10, rfl, a, dr, ds, df, _, 1, rfl, by decide, m10, fun H11 b11 m11 => ?_⟩
    have s11 : Same H H11 := Same.but (s6.trans s610) b11 nw
    have tk11 : Tk K H10 H11 := Tk.but b11 m10.noT
    have hc11 := (hc1'.mono (Tk.same s10)).mono tk11
    have hv11 := (hv1'.mono (Tk.same s10)).mono tk11
    have hv21 := (hv2.mono (Tk.same s10)).mono tk11
    have h11 := tk11 _ _ (SqT.of (K := K) e10)
    -- choices()[1]
    obtain ⟨dx11, ea11⟩ := m11.at_
    refine ⟨_, rfl, _, rfl, a, dx11, _, rfl, ea11, rfl, a, dr, ds, df, _, 18, rfl, m11, mok6, by decide, fun vd H12 s12 hd => ?_⟩
    unfold choicesD at hd
    cases hd with
    | @tup pd xd _ hpd hld =>
    cases hld with
    | @cons d0 _ _ _ hd0 hld =>
    cases hld with
    | @cons d1 _ _ _ hd1 hld =>
    rw [chs61] at hd1
    refine ⟨pd, _, _, d1, rfl, rfl, hpd, at_1 _ _ _, (by show 1 ≤ sizeLine; decide), fun t13 ht13 => ?_⟩
    have s13 : Same H12 (upd H12 t13 (.tup [d1])) := same_new ht13
    have e13 : upd H12 t13 (.tup [d1]) t13 = some (.tup [d1]) := upd_same
    generalize upd H12 t13 (.tup [d1]) = H13 at s13 e13 ⊢
    have s1113 : Same H11 H13 := s12.trans s13
    refine ⟨t10, t13, _, _, rfl, rfl, Tk.same s1113 _ _ h11, SqT.of e13, (by show 3 + 1 ≤ sizeLine; decide), fun p14 H14 s14 h14 => ?_⟩
    have s1114 : Same H11 H14 := s1113.trans s14
    -- what is due
    refine ⟨_, _, rfl, rfl, (by show 2 ≤ sizeLine; decide), fun u1 hu1 => ?_⟩
    have r1 : Same H14 (upd H14 u1 (.tup [.int (0 - 1), .int 0])) := same_new hu1
    have f1 : upd H14 u1 (.tup [.int (0 - 1), .int 0]) u1 = some (.tup [.int (0 - 1), .int 0]) := upd_same
    generalize upd H14 u1 (.tup [.int (0 - 1), .int 0]) = G1 at r1 f1 ⊢
    refine ⟨(by show 2 ≤ sizeLine; decide), fun u2 hu2 => ?_⟩
    have r2 : Same G1 (upd G1 u2 (.tup [.int 1, .int 2])) := same_new hu2
    have f2 : upd G1 u2 (.tup [.int 1, .int 2]) u2 = some (.tup [.int 1, .int 2]) := upd_same
    generalize upd G1 u2 (.tup [.int 1, .int 2]) = G2 at r2 f2 ⊢
    refine ⟨Nat.zero_le _, fun u3 hu3 => ?_⟩
    have r3 : Same G2 (upd G2 u3 (.tup [])) := same_new hu3
    have f3 : upd G2 u3 (.tup []) u3 = some (.tup []) := upd_same
    generalize upd G2 u3 (.tup []) = G3 at r3 f3 ⊢
    refine ⟨(by show 1 ≤ sizeLine; decide), fun u4 hu4 => ?_⟩
    have r4 : Same G3 (upd G3 u4 (.tup [.int 0])) := same_new hu4
    have f4 : upd G3 u4 (.tup [.int 0]) u4 = some (.tup [.int 0]) := upd_same
    generalize upd G3 u4 (.tup [.int 0]) = G4 at r4 f4 ⊢
    refine ⟨(by show 4 ≤ sizeLine; decide), fun u5 hu5 => ?_⟩
    have r5 : Same G4 (upd G4 u5 (.tup [.ref u1, .ref u2, .ref u3, .ref u4])) := same_new hu5
    have f5 : upd G4 u5 (.tup [.ref u1, .ref u2, .ref u3, .ref u4]) u5 = some (.tup [.ref u1, .ref u2, .ref u3, .ref u4]) := upd_same
    generalize upd G4 u5 (.tup [.ref u1, .ref u2, .ref u3, .ref u4]) = G5 at r5 f5 ⊢
    have r15 : Same H14 G5 := r1.trans (r2.trans (r3.trans (r4.trans r5)))
    have w11 := Tk.same (K := K) (s1114.trans r15)
    refine ⟨.ref p14, .ref u5, .tup [tI [-1, 0], tI [1, 2], tI [], tI [0]], rfl, .tup (Tk.same r15 _ _ h14) (.cons (hc11.mono w11) (.cons (hv11.mono w11) (.cons (hv21.mono w11) (.cons (hd1.mono (Tk.same (s13.trans (s14.trans r15)))) .nil)))), .tup (SqT.of f5) ?_, by decide, fun H' sx => q H' (s11.trans (s1114.trans (r15.trans sx)))⟩
    refine .cons (Im.tI (ns := [-1, 0]) (SqT.of ((r2.trans (r3.trans (r4.trans r5))) _ _ f1))) (.cons (Im.tI (ns := [1, 2]) (SqT.of ((r3.trans (r4.trans r5)) _ _ f2))) (.cons (Im.tI (ns := []) (SqT.of ((r4.trans r5) _ _ f3))) (.cons (Im.tI (ns := [0]) (SqT.of (r5 _ _ f4))) .nil)))
end
end K77
end

section
set_option Elab.async false
set_option linter.all false
set_option maxRecDepth 100000
set_option maxHeartbeats 4000000
namespace K77
open PySem L2
mutual
theorem dp_dq : ∀ d : D, dp d = dq d
  | .non => rfl
  | .bl _ => rfl
  | .int _ => rfl
  | .str _ => rfl
  | .tup xs => by
    have := dpL_dqL xs
    simp only [dp, dq, this]
theorem dpL_dqL : ∀ xs : List D, dpL xs = dqL xs
  | [] => rfl
  | x :: xs => by
    have h1 := dp_dq x
    have h2 := dpL_dqL xs
    simp only [dpL, dqL, h1, h2]
end
theorem dpL_le {n : Nat} : ∀ {xs : List D}, (∀ x ∈ xs, dp x ≤ n) → dpL xs ≤ n
  | [], _ => Nat.zero_le _
  | x :: xs, h => by
    have h1 := h x List.mem_cons_self
    have h2 := dpL_le (n := n) (xs := xs) fun y hy => h y (List.mem_cons_of_mem _ hy)
    simp only [dpL]
    omega
theorem dp_tI (l : List Int) : dp (tI l) ≤ 1 := by
  have : dpL (l.map D.int) ≤ 0 := dpL_le fun x hx => by
    obtain ⟨n, _, rfl⟩ := List.mem_map.mp hx
    exact Nat.le_refl _
  show 1 + dpL (l.map D.int) ≤ 1
  omega
theorem dp_resD (o : List Int) : dp (resD (read o)) ≤ 1 + o.count 6 := by
  cases e : read o with
  | bad k => exact Nat.le_trans (by show 1 + max 0 (max 0 0) ≤ 1; decide) (Nat.le_add_right _ _)
  | ok d =>
    have h := read_dk e
    rw [← dp_dq] at h
    show 1 + max 0 (max (dp d) 0) ≤ _
    omega
/-! ### octets of frames are octets -/
theorem xor_oct {x y : Int} (hx : 0 ≤ x ∧ x < 256) (hy : 0 ≤ y ∧ y < 256) : 0 ≤ Builtin.bitXor x y ∧ Builtin.bitXor x y < 256 := by
  have h1 : Builtin.bitAnd x y = ((x.toNat &&& y.toNat : Nat) : Int) := by
    unfold Builtin.bitAnd
    rw [decide_eq_true hx.1, decide_eq_true hy.1]
  have nx : decide (0 ≤ Builtin.bitNot x) = false := decide_eq_false (by unfold Builtin.bitNot; omega)
  have ny : decide (0 ≤ Builtin.bitNot y) = false := decide_eq_false (by unfold Builtin.bitNot; omega)
  have nnx : Builtin.bitNot (Builtin.bitNot x) = x := by unfold Builtin.bitNot; omega
  have nny : Builtin.bitNot (Builtin.bitNot y) = y := by unfold Builtin.bitNot; omega
  have h2 : Builtin.bitOr x y = ((x.toNat ||| y.toNat : Nat) : Int) := by
    unfold Builtin.bitOr Builtin.bitAnd
    rw [nx, ny]
    simp only [nnx, nny]
    generalize ((x.toNat ||| y.toNat : Nat) : Int) = z
    unfold Builtin.bitNot
    omega
  unfold Builtin.bitXor
  rw [h1, h2]
  have a1 : x.toNat &&& y.toNat ≤ x.toNat := Nat.and_le_left
  have a2 : x.toNat ≤ x.toNat ||| y.toNat := Nat.left_le_or
  have a3 : x.toNat ||| y.toNat < 2 ^ 8 := Nat.or_lt_two_pow (by omega) (by omega)
  omega
theorem fold_oct : ∀ (l : List Int) (a : Int), 0 ≤ a ∧ a < 256 → Oct l → 0 ≤ l.foldl Builtin.bitXor a ∧ l.foldl Builtin.bitXor a < 256
  | [], a, h, _ => h
  | x :: l, a, h, ho => fold_oct l _ (xor_oct h (ho x List.mem_cons_self)) fun y hy => ho y (List.mem_cons_of_mem _ hy)
theorem xo_oct {l : List Int} (h : Oct l) : 0 ≤ xo l ∧ xo l < 256 := fold_oct l 0 (by decide) h
theorem frame_oct {k : Int} {l : List Int} (hk : 0 ≤ k ∧ k < 256) (h : Oct l) (hl : l.length ≤ 6) : Oct (frameL k l) := by
  have h0 : 0 ≤ ((l.length : Nat) : Int) / 256 ∧ ((l.length : Nat) : Int) / 256 < 256 := by omega
  have h1 : 0 ≤ ((l.length : Nat) : Int) % 256 ∧ ((l.length : Nat) : Int) % 256 < 256 := by omega
  have h3 : Oct [k, ((l.length : Nat) : Int) / 256, ((l.length : Nat) : Int) % 256] := .cons hk (.cons h0 (.cons h1 .nil))
  have w0 : 0 ≤ wt l ∧ wt l < 65521 := ⟨Int.emod_nonneg _ (by decide), Int.emod_lt_of_pos _ (by decide)⟩
  refine Oct.app (Oct.app (.cons hk (.cons h0 (.cons h1 (.cons (xo_oct h3) .nil)))) h) (.cons (xo_oct h) (.cons (by omega) (.cons (by omega) .nil)))
theorem frame_len (k : Int) (l : List Int) : (frameL k l).length = l.length + 7 := by
  unfold frameL headL footL
  simp only [List.length_append, List.length_cons, List.length_nil]
  omega
/-! ### a drawn value may be compared -/
theorem sig_small : (sigs.all fun c => decide (c < 0x110000)) = true := by decide
mutual
theorem can_good : ∀ d : D, Good d → PyData.canLay0 (toP d) = true
  | .non, _ => by simp [toP, PyData.canLay0]
  | .bl _, _ => by simp [toP, PyData.canLay0]
  | .int _, _ => by simp [toP, PyData.canLay0]
  | .str s, g => by
    simp only [toP, PyData.canLay0, PyData.strOk]
    rw [← Array.all_toList]
    rw [List.all_eq_true]
    intro c hc
    exact List.all_eq_true.mp sig_small c (g.2 c hc)
  | .tup xs, g => by
    have := can_goodL xs g.2
    simp only [toP, PyData.canLay0, this]
theorem can_goodL : ∀ xs : List D, GoodL xs → PyData.canLayAll0 (toPL xs) = true
  | [], _ => by simp [toPL, PyData.canLayAll0]
  | x :: xs, g => by
    have h1 := can_good x g.1
    have h2 := can_goodL xs g.2
    simp only [toPL, PyData.canLayAll0, h1, h2, Bool.and_self]
end
mutual
theorem dep_toP : ∀ d : D, (toP d).depth = dp d
  | .non => by simp [toP, PyData.depth, dp]
  | .bl _ => by simp [toP, PyData.depth, dp]
  | .int _ => by simp [toP, PyData.depth, dp]
  | .str _ => by simp [toP, PyData.depth, dp]
  | .tup xs => by
    have := dep_toPL xs
    simp only [toP, PyData.depth, dp, this]
    omega
theorem dep_toPL : ∀ xs : List D, PyData.depthAll (toPL xs) = dpL xs
  | [] => by simp [toPL, PyData.depthAll, dpL]
  | x :: xs => by
    have h1 := dep_toP x
    have h2 := dep_toPL xs
    simp only [toPL, PyData.depthAll, dpL, h1, h2]
end
theorem sh_good {d : D} (g : Good d) (h : dp d ≤ 60) : SeqAt.shaped (toP (.tup [.bl true, d])) = true := by
  have h1 := can_good d g
  have h2 := dep_toP (.tup [.bl true, d])
  have h3 : dp (.tup [.bl true, d]) = 1 + max 0 (max (dp d) 0) := rfl
  unfold SeqAt.shaped
  rw [Bool.and_eq_true]
  refine ⟨?_, decide_eq_true (by rw [h2, h3]; omega)⟩
  simp only [toP, toPL, PyData.canLay0, PyData.canLayAll0, h1, Bool.and_self]
theorem eq_good {d : D} (g : Good d) : PyData.eqv (toP (.tup [.bl true, d])) (toP (.tup [.bl true, d])) = true := by
  have h1 := can_good d g
  refine SeqAt.eqv_refl _ ?_
  simp only [toP, toPL, PyData.canLay0, PyData.canLayAll0, h1, Bool.and_self]
theorem dp_frD (q : Int × List Int) : dp (frD q) ≤ 2 := by
  have := dp_tI q.2
  show 1 + max 0 (max (dp (tI q.2)) 0) ≤ 2
  omega
theorem dp_frDD (r : List (Int × List Int) × Option Bool) : dp (frDD r) ≤ 4 := by
  have h1 : dpL (r.1.map frD) ≤ 2 := dpL_le fun x hx => by
    obtain ⟨q, _, rfl⟩ := List.mem_map.mp hx
    exact dp_frD q
  have h2 : dp (tailD r.1.length r.2) ≤ 1 := by
    cases r.2 with
    | none => exact Nat.zero_le _
    | some b => exact Nat.le_refl _
  show 1 + max (1 + dpL (r.1.map frD)) (max (dp (tailD r.1.length r.2)) 0) ≤ 4
  omega
theorem dpL_tI (ls : List (List Int)) : dpL (ls.map tI) ≤ 1 := dpL_le fun x hx => by
  obtain ⟨l, _, rfl⟩ := List.mem_map.mp hx
  exact dp_tI l
theorem Oct.mid {l : List Int} {n : Nat} {x : Int} (h : Oct l) (hx : 0 ≤ x ∧ x < 256) : Oct (l.take n ++ [x] ++ l.drop (n + 1)) := (h.take n).app (.cons hx .nil) |>.app (h.drop (n + 1))
end K77
end

section
set_option Elab.async false
set_option linter.all false
set_option maxRecDepth 100000
set_option maxHeartbeats 4000000
namespace K77
open PySem L2
section
variable {P : Program} {w : World} {K : PySem.W.Frag} {mg : Str → Option Value} {base : Heap}
theorem sqL_same {H H' : Hp} {a : Addr} {xs : List V} (h : SqL K H a xs) (s : Same H H') : SqL K H' a xs := by
  rcases h with (h | ⟨o, h⟩) | h
  · exact .inl (.inl (s _ _ h))
  · exact .inl (.inr ⟨o, s _ _ h⟩)
  · exact .inr h
/-! ### the octets that the law tries -/
def othersL (o : List Int) (n : Nat) (y z : Int) : List (List Int) := [o, o.take n, o ++ o.take 1, o.take n ++ [y] ++ o.drop (n + 1), o.take n ++ [128, 0] ++ o.drop n, [6, 99] ++ o, [5, 1, z], [4, 0], [9]]
structure OkO (l : List Int) : Prop where
  oct : Oct l
  cap : Cap 7 l
  len : l.length ≤ 1000
  ct : l.count 6 ≤ 217
theorem others_ok {d : D} {n : Nat} {y z : Int} (g : Good d) (hl : (octs d).length ≤ 620) (hc : (octs d).count 6 ≤ 215) (hn : n < (octs d).length) (hy : 0 ≤ y ∧ y < 256) (hz : 0 ≤ z ∧ z < 256) : ∀ l ∈ othersL (octs d) n y z, OkO l := by
  have ho := octs_oct d g
  have h2 := cap2_octs g
  have h6 := h2.cap
  obtain ⟨t, r, eo, ht⟩ := octs_head d
  generalize octs d = o at *
  have hsplit : o = o.take n ++ o[n] :: o.drop (n + 1) := by rw [← List.drop_eq_getElem_cons hn, List.take_append_drop]
  have c1 : (o.take n).count 6 ≤ 215 := Nat.le_trans ((List.take_sublist n o).count_le 6) hc
  have c2 : (o.drop (n + 1)).count 6 + (o.take n).count 6 ≤ 215 := by
    have : o.count 6 = (o.take n).count 6 + (o[n] :: o.drop (n + 1)).count 6 := by rw [← List.count_append, ← hsplit]
    have h3 : (o.drop (n + 1)).count 6 ≤ (o[n] :: o.drop (n + 1)).count 6 := (List.sublist_cons_self _ _).count_le 6
    omega
  have c3 : (o.take n).count 6 + (o.drop n).count 6 ≤ 215 := by
    rw [← List.count_append, List.take_append_drop]
    exact hc
  have l1 : (o.take n).length = n := by rw [List.length_take]; omega
  have l2 : (o.drop (n + 1)).length = o.length - (n + 1) := List.length_drop ..
  have l3 : (o.drop n).length = o.length - n := List.length_drop ..
  have l4 : (o.take 1).length ≤ 1 := by rw [List.length_take]; omega
  have cnt : ∀ l : List Int, l.count 6 ≤ l.length := fun l => List.count_le_length
  intro l hm
  unfold othersL at hm
  simp only [List.mem_cons, List.not_mem_nil, or_false] at hm
  rcases hm with rfl | rfl | rfl | rfl | rfl | rfl | rfl | rfl | rfl
  · exact ⟨ho, h6.mono (by decide), by omega, by omega⟩
  · exact ⟨ho.take n, (h6.take n).mono (by decide), by omega, by omega⟩
  · refine ⟨ho.app (ho.take 1), ?_, by rw [List.length_append]; omega, by rw [List.count_append]; have := cnt (o.take 1); omega⟩
    rw [eo]
    exact ((eo ▸ h6).mono (by decide)).snoc_low ht
  · refine ⟨ho.mid hy, ?_, by rw [List.length_append, List.length_append]; simp only [List.length_cons, List.length_nil]; omega, by rw [List.count_append, List.count_append]; have := cnt [y]; simp only [List.length_cons, List.length_nil] at this; omega⟩
    rw [List.append_assoc]
    have h2' : Cap2 6 (o.take n ++ o[n] :: o.drop (n + 1)) := by rw [← hsplit]; exact h2
    exact (h2'.put y).mono (by decide)
  · refine ⟨((ho.take n).app (.cons (by decide) (.cons (by decide) .nil))).app (ho.drop n), ?_, by rw [List.length_append, List.length_append]; simp only [List.length_cons, List.length_nil]; omega, ?_⟩
    · rw [List.append_assoc]
      show Cap 7 (o.take n ++ 128 :: 0 :: o.drop n)
      refine Cap.ins (a := o.take n) (b := o.drop n) ?_
      rw [List.take_append_drop]
      exact h6
    · rw [List.count_append, List.count_append]
      have : ([128, 0] : List Int).count 6 = 0 := by decide
      omega
  · refine ⟨.cons (by decide) (.cons (by decide) ho), ((h6.mono (by decide)).cons_low (by decide)).cons_low (by decide), by rw [List.length_append]; simp only [List.length_cons, List.length_nil]; omega, ?_⟩
    rw [List.count_append]
    have : ([6, 99] : List Int).count 6 = 1 := by decide
    omega
  · exact ⟨.cons (by decide) (.cons (by decide) (.cons hz .nil)), Cap.small (by show 3 ≤ 7; decide), by show 3 ≤ 1000; decide, Nat.le_trans (cnt _) (by show 3 ≤ 217; decide)⟩
  · exact ⟨.cons (by decide) (.cons (by decide) .nil), Cap.small (by decide), by decide, Nat.le_trans (cnt _) (by decide)⟩
  · exact ⟨.cons (by decide) .nil, Cap.small (by decide), by decide, Nat.le_trans (cnt _) (by decide)⟩
theorem frD_out {H : Hp} {x : V} {q : Int × List Int} (h : Im K H x (frD q)) : ∃ a gp, x = .ref a ∧ SqT K H a [.int q.1, .ref gp] ∧ SqT K H gp (q.2.map V.int) := by
  unfold frD at h
  cases h with
  | @tup a xs _ hs hl =>
  cases hl with
  | @cons v1 _ _ _ h1 hl =>
  cases hl with
  | @cons v2 _ _ _ h2 hl =>
  cases hl
  cases h1
  obtain ⟨g, rfl, hg⟩ := h2.to_tI
  exact ⟨a, g, rfl, hs, hg⟩
/-- a part of the law's row -/
def PtOk (q : Int × List Int) : Prop := (0 ≤ q.1 ∧ q.1 < 256) ∧ Oct q.2 ∧ q.2.length ≤ 6
def frO (q : Int × List Int) : List Int := frameL q.1 q.2
theorem whole_ok : ∀ ps : List (Int × List Int), (∀ q ∈ ps, PtOk q) → Oct (ps.map frO).flatten ∧ (ps.map frO).flatten.length ≤ 13 * ps.length
  | [], _ => ⟨.nil, by simp⟩
  | q :: ps, h => by
    have h1 := h q List.mem_cons_self
    have h2 := whole_ok ps fun x hx => h x (List.mem_cons_of_mem _ hx)
    have h3 : (frO q).length ≤ 13 := by
      show (frameL q.1 q.2).length ≤ 13
      rw [frame_len]
      have := h1.2.2
      omega
    simp only [List.map_cons, List.flatten_cons, List.length_append, List.length_cons]
    exact ⟨(frame_oct h1.1 h1.2.1 h1.2.2).app h2.1, by omega⟩
theorem box_keep {H H' : Hp} {b D : Addr} {o : HO} (h : Box H b) (n : D ≠ b) (e : H' = L2.upd H D o) : Box H' b := by
  obtain ⟨g0, t0, e0⟩ := h
  exact ⟨g0, t0, by rw [e, upd_ne (Ne.symm n)]; exact e0⟩
theorem box_ne {H : Hp} {b D : Addr} (h : Box H b) (hD : H D = none) : D ≠ b := fun z => by
  obtain ⟨g0, t0, e0⟩ := h
  rw [z, e0] at hD
  cases hD
def spLaw (K : PySem.W.Frag) : Sp := fun vs H Q _ => ∃ (sc : Addr) (ns : List Int), vs = [.ref sc] ∧ SqL K H sc (ns.map V.int) ∧ ns.length ≤ sizeLine ∧ ∀ H', Q (.bl true) H'
/-- all that the law calls -/
structure Gs (P : Program) (w : World) (K : PySem.W.Frag) (mg : Str → Option Value) (base : Heap) (T : Tx P K mg) : Prop where
  begun : FnOk P w K mg base CX0 5 T._law_begun_twice.f T._law_begun_twice.fd [] spBegun
  box : FnOk P w K mg base CX0 1 T._law_box.f T._law_box.fd ["script", "k"] (spBox K)
  any : FnOk P w K mg base CX0 6 T._law_any_value.f T._law_any_value.fd ["box", "deep"] (spAny K 4)
  octs : FnOk P w K mg base CX0 6 T._law_octets.f T._law_octets.fd ["value"] (spOcts K 4)
  take : FnOk P w K mg base CX0 1 T._law_take.f T._law_take.fd ["box", "many"] spTake
  told : FnOk P w K mg base CX0 5 T._law_told_of_octets.f T._law_told_of_octets.fd ["octets"] (spRead K)
  same : FnOk P w K mg base CX0 221 T._law_same.f T._law_same.fd ["told", "due"] (spSame K 220)
  read : FnOk P w K mg base CX0 3 T._law_read.f T._law_read.fd ["octets"] (spRead K)
  packed : FnOk P w K mg base CX0 2 T.packed.f T.packed.fd ["value"] (spPacked K)
  frame : FnOk P w K mg base CX0 3 T.frame.f T.frame.fd ["kind", "payload"] (spFrame K)
  framed : FnOk P w K mg base CX0 1 T._law_framed.f T._law_framed.fd ["kind", "payload"] (spFramed K)
  whole : FnOk P w K mg base CX0 2 T._law_whole_frames.f T._law_whole_frames.fd ["octets"] (spWhole K)
  framesof : FnOk P w K mg base CX0 3 T.frames_of.f T.frames_of.fd ["octets"] (spFramesOf K)
  minit : FnOk P w K mg base CX0 1 T.Medium_init.f T.Medium_init.fd ["self"] (spMInit K T.CMedium)
  turn : FnOk P w K mg base CX0 4 T._law_medium_turn.f T._law_medium_turn.fd ["box", "medium", "files"] (spTurn K T.CMedium)
  mread : FnOk P w K mg base CX0 1 T.Medium_read.f T.Medium_read.fd ["self", "name"] (spMRead K T.CMedium)
  mchoices : FnOk P w K mg base CX0 1 T.Medium_choices.f T.Medium_choices.fd ["self"] (spMChoices K T.CMedium)
theorem ok_law (T : Tx P K mg) (gs : Gs P w K mg base T) : FnOk P w K mg base CX0 222 T.law.f T.law.fd ["script"] (spLaw K) := by
  refine T.law.F.ok sc_law (fun vs H Q E h => ?_) (fun cdv A outer s H vs Q E hr h => ?_)
  · obtain ⟨sc, ns, rfl, _⟩ := h
    rfl
  · obtain ⟨sc, ns, rfl, hs, hns, q⟩ := h
    have hu := hu_of hr
    have hu64 := hu64_of hr
    obtain ⟨G__law_begun_twice, G__law_box, G__law_any_value, G__law_octets, G__law_take, G__law_told_of_octets, G__law_same, G__law_read, G_packed, G_frame, G__law_framed, G__law_whole_frames, G_frames_of, G_Medium_init, G__law_medium_turn, G_Medium_read, G_Medium_choices⟩ := gs
    refine ⟨_, (pss_cons (ps_if (pt_not (pt_val (pe_call0 G__law_begun_twice (hr.mono (by decide)) rfl T._law_begun_twice.m T._law_begun_twice.F.kp T._law_begun_twice.b .nil pass0))) (pss_one (ps_ret pe_bl)) pss_nil)
      (pss_cons (ps_for PassesOwn.never rfl (pi_range1 (by rfl) T.n_range (pa_cons (pe_callB (call_max2 rfl) (by rfl) T.n_max PyProof.Rows.boot_max (pa_cons pe_int (pa_cons (pe_callB (call_min2 rfl) (by rfl) T.n_min PyProof.Rows.boot_min (pa_cons (pe_callB call_len_seq (by rfl) T.n_len PySem.boot_len (pa_cons (pv 0) pa_nil)) (pa_cons pe_int pa_nil))) pa_nil))) pa_nil)) (pg_name (i := 1) sc_law.nd rfl (by first | exact Or.inl rfl | exact Or.inr rfl)) (pss_cons (ps_set (i := 2) sc_law.nd rfl (by first | exact Or.inl rfl | exact Or.inr rfl) (pe_call G__law_box (hr.mono (by decide)) rfl T._law_box.m T._law_box.F.kp T._law_box.b .nil pass0 (pa_cons (pv 0) (pa_cons (pv 1) pa_nil))))
      (pss_cons (ps_for PassesOwn.never rfl (pi_range1 (by rfl) T.n_range (pa_cons pe_int pa_nil)) (pg_name (i := 3) sc_law.nd rfl (by first | exact Or.inl rfl | exact Or.inr rfl)) (pss_cons (ps_set (i := 4) sc_law.nd rfl (by first | exact Or.inl rfl | exact Or.inr rfl) (pe_call G__law_any_value (hr.mono (by decide)) rfl T._law_any_value.m T._law_any_value.F.kp T._law_any_value.b .nil pass0 (pa_cons (pv 2) (pa_cons pe_int pa_nil))))
      (pss_cons (ps_set (i := 5) sc_law.nd rfl (by first | exact Or.inl rfl | exact Or.inr rfl) (pe_tupleOf rfl T.n_tuple (pe_call G__law_octets (hr.mono (by decide)) rfl T._law_octets.m T._law_octets.F.kp T._law_octets.b .nil pass0 (pa_cons (pv 4) pa_nil))))
      (pss_cons (ps_set (i := 6) sc_law.nd rfl (by first | exact Or.inl rfl | exact Or.inr rfl) (pe_call G__law_take (hr.mono (by decide)) rfl T._law_take.m T._law_take.F.kp T._law_take.b .nil pass0 (pa_cons (pv 2) (pa_cons (pe_callB call_len_seq (by rfl) T.n_len PySem.boot_len (pa_cons (pv 5) pa_nil)) pa_nil))))
      (pss_cons (ps_set (i := 7) sc_law.nd rfl (by first | exact Or.inl rfl | exact Or.inr rfl) (pe_lst (pa_cons (pv 5) (pa_cons (pe_slice sl_tupU (pv 5) po_none (po_some (pv 6))) (pa_cons (pe_op op_catU (pv 5) (pe_slice sl_tupU (pv 5) po_none (po_some pe_int))) (pa_cons (pe_op op_catU (pe_op op_catU (pe_slice sl_tupU (pv 5) po_none (po_some (pv 6))) (pe_tup (pa_cons (pe_call G__law_take (hr.mono (by decide)) rfl T._law_take.m T._law_take.F.kp T._law_take.b .nil pass0 (pa_cons (pv 2) (pa_cons pe_int pa_nil))) pa_nil))) (pe_slice sl_tupU (pv 5) (po_some (pe_op op_add (pv 6) pe_int)) po_none)) (pa_cons (pe_op op_catU (pe_op op_catU (pe_slice sl_tupU (pv 5) po_none (po_some (pv 6))) (pe_tup (pa_cons pe_int (pa_cons pe_int pa_nil)))) (pe_slice sl_tupU (pv 5) (po_some (pv 6)) po_none)) (pa_cons (pe_op op_catU (pe_tup (pa_cons pe_int (pa_cons pe_int pa_nil))) (pv 5)) (pa_cons (pe_tup (pa_cons pe_int (pa_cons pe_int (pa_cons (pe_call G__law_take (hr.mono (by decide)) rfl T._law_take.m T._law_take.F.kp T._law_take.b .nil pass0 (pa_cons (pv 2) (pa_cons pe_int pa_nil))) pa_nil)))) (pa_cons (pe_tup (pa_cons pe_int (pa_cons pe_int pa_nil))) (pa_cons (pe_tup (pa_cons pe_int pa_nil)) pa_nil)))))))))))
      (pss_cons (ps_setLc (i := 8) (own := [("some", 12)]) (g := gName 12) (tt := tYes) rfl sc_law.nd rfl rfl (sw_true rfl rfl rfl (by decide +kernel)) (pi_list (pv 7)) (blkOk_by (N := ["script", "k", "box", "turn", "value", "octets", "spot", "others", "told", "parts", "frames", "whole", "some", "found", "end", "tail", "medium", "files", "due", "kind", "payload", "name"]) (sc := defScope s_law) (by decide +kernel)) (fun _ _ _ _ _ => (pg_name (i := 12) sc_law.nd rfl (by first | exact Or.inl rfl | exact Or.inr rfl))) (fun _ _ _ _ _ => pts_nil) (fun _ _ _ _ _ => (pe_call G__law_told_of_octets (hr.mono (by decide)) rfl T._law_told_of_octets.m T._law_told_of_octets.F.kp T._law_told_of_octets.b .nil pass0 (pa_cons (pv 12) pa_nil))))
      (pss_one (ps_if (PW.pt (pw_or (pt_not (pt_val (pe_call G__law_same (hr.mono (by decide)) rfl T._law_same.m T._law_same.F.kp T._law_same.b .nil pass0 (pa_cons (pe_op op_catU (pe_tup (pa_cons (pe_call G_packed (hr.mono (by decide)) rfl T.packed.m T.packed.F.kp T.packed.b .nil pass0 (pa_cons (pv 4) pa_nil)) pa_nil)) (pe_tupleOf rfl T.n_tuple (pv 8))) (pa_cons (pe_op op_catU (pe_tup (pa_cons (pv 5) pa_nil)) (pe_tupleOf rfl T.n_tuple (pe_lc (own := [("some", 12)]) (g := gName 12) (tt := tYes) rfl sc_law.nd (pi_list (pv 7)) (blkOk_by (N := ["script", "k", "box", "turn", "value", "octets", "spot", "others", "told", "parts", "frames", "whole", "some", "found", "end", "tail", "medium", "files", "due", "kind", "payload", "name"]) (sc := defScope s_law) (by decide +kernel)) (fun _ _ _ _ _ => (pg_name (i := 12) sc_law.nd rfl (by first | exact Or.inl rfl | exact Or.inr rfl))) (fun _ _ _ _ _ => pts_nil) (fun _ _ _ _ _ => (pe_call G__law_read (hr.mono (by decide)) rfl T._law_read.m T._law_read.F.kp T._law_read.b .nil pass0 (pa_cons (pv 12) pa_nil)))))) pa_nil))))) (pw_or1 (pt_cmpR (op_neD hu64) (pe_ix ix_list (pv 8) pe_int (fun _ _ => rfl)) (pe_tup (pa_cons pe_bl (pa_cons (pv 4) pa_nil))) (nomark _))))) (pss_one (ps_ret pe_bl)) pss_nil))))))))
      (pss_cons (ps_setLc (i := 9) (own := [("turn", 3)]) (g := gName 3) (tt := tYes) rfl sc_law.nd rfl rfl (sw_true rfl rfl rfl (by decide +kernel)) (pi_range1 (by rfl) T.n_range (pa_cons (pe_op op_add pe_int (pe_call G__law_take (hr.mono (by decide)) rfl T._law_take.m T._law_take.F.kp T._law_take.b .nil pass0 (pa_cons (pv 2) (pa_cons pe_int pa_nil)))) pa_nil)) (blkOk_by (N := ["script", "k", "box", "turn", "value", "octets", "spot", "others", "told", "parts", "frames", "whole", "some", "found", "end", "tail", "medium", "files", "due", "kind", "payload", "name"]) (sc := defScope s_law) (by decide +kernel)) (fun _ _ _ _ _ => (pg_name (i := 3) sc_law.nd rfl (by first | exact Or.inl rfl | exact Or.inr rfl))) (fun _ _ _ _ _ => pts_nil) (fun _ _ _ _ _ => (pe_tup (pa_cons (pe_call G__law_take (hr.mono (by decide)) rfl T._law_take.m T._law_take.F.kp T._law_take.b .nil pass0 (pa_cons (pv 2) (pa_cons pe_int pa_nil))) (pa_cons (pe_tupleOfK rfl rfl T.n_tuple (pe_lc (own := [("spot", 6)]) (g := gName 6) (tt := tYes) rfl sc_law.nd (pi_range1 (by rfl) T.n_range (pa_cons (pe_call G__law_take (hr.mono (by decide)) rfl T._law_take.m T._law_take.F.kp T._law_take.b .nil pass0 (pa_cons (pv 2) (pa_cons pe_int pa_nil))) pa_nil)) (blkOk_by (N := ["script", "k", "box", "turn", "value", "octets", "spot", "others", "told", "parts", "frames", "whole", "some", "found", "end", "tail", "medium", "files", "due", "kind", "payload", "name"]) (sc := _) (by rfl)) (fun _ _ _ _ _ => (pg_name (i := 6) sc_law.nd rfl (by first | exact Or.inl rfl | exact Or.inr rfl))) (fun _ _ _ _ _ => pts_nil) (fun _ _ _ _ _ => (pe_call G__law_take (hr.mono (by decide)) rfl T._law_take.m T._law_take.F.kp T._law_take.b .nil pass0 (pa_cons (pv 2) (pa_cons pe_int pa_nil)))))) pa_nil)))))
      (pss_cons (ps_setLc (i := 10) (own := [("kind", 19), ("payload", 20)]) (g := gTup K 2 (gCons (gName 19) (gCons (gName 20) (gNil)))) (tt := tYes) rfl sc_law.nd rfl rfl (sw_true rfl rfl rfl (by decide +kernel)) (pi_list (pv 9)) (blkOk_by (N := ["script", "k", "box", "turn", "value", "octets", "spot", "others", "told", "parts", "frames", "whole", "some", "found", "end", "tail", "medium", "files", "due", "kind", "payload", "name"]) (sc := defScope s_law) (by decide +kernel)) (fun _ _ _ _ _ => (pg_tup rfl (pgs_cons (pg_name (i := 19) sc_law.nd rfl (by first | exact Or.inl rfl | exact Or.inr rfl)) (pgs_cons (pg_name (i := 20) sc_law.nd rfl (by first | exact Or.inl rfl | exact Or.inr rfl)) pgs_nil)))) (fun _ _ _ _ _ => pts_nil) (fun _ _ _ _ _ => (pe_call G_frame (hr.mono (by decide)) rfl T.frame.m T.frame.F.kp T.frame.b .nil pass0 (pa_cons (pv 19) (pa_cons (pv 20) pa_nil)))))
      (pss_cons (ps_if (pt_not (pt_val (pe_call G__law_same (hr.mono (by decide)) rfl T._law_same.m T._law_same.F.kp T._law_same.b .nil pass0 (pa_cons (pe_tupleOf rfl T.n_tuple (pv 10)) (pa_cons (pe_tupleOf rfl T.n_tuple (pe_lc (own := [("kind", 19), ("payload", 20)]) (g := gTup K 2 (gCons (gName 19) (gCons (gName 20) (gNil)))) (tt := tYes) rfl sc_law.nd (pi_list (pv 9)) (blkOk_by (N := ["script", "k", "box", "turn", "value", "octets", "spot", "others", "told", "parts", "frames", "whole", "some", "found", "end", "tail", "medium", "files", "due", "kind", "payload", "name"]) (sc := defScope s_law) (by decide +kernel)) (fun _ _ _ _ _ => (pg_tup rfl (pgs_cons (pg_name (i := 19) sc_law.nd rfl (by first | exact Or.inl rfl | exact Or.inr rfl)) (pgs_cons (pg_name (i := 20) sc_law.nd rfl (by first | exact Or.inl rfl | exact Or.inr rfl)) pgs_nil)))) (fun _ _ _ _ _ => pts_nil) (fun _ _ _ _ _ => (pe_tupleOfK rfl rfl T.n_tuple (pe_call G__law_framed (hr.mono (by decide)) rfl T._law_framed.m T._law_framed.F.kp T._law_framed.b .nil pass0 (pa_cons (pv 19) (pa_cons (pv 20) pa_nil))))))) pa_nil))))) (pss_one (ps_ret pe_bl)) pss_nil)
      (pss_cons (ps_set (i := 11) sc_law.nd rfl (by first | exact Or.inl rfl | exact Or.inr rfl) (pe_tup pa_nil))
      (pss_cons (ps_for PassesOwn.never rfl (pi_list (pv 10)) (pg_name (i := 12) sc_law.nd rfl (by first | exact Or.inl rfl | exact Or.inr rfl)) (pss_one (ps_set (i := 11) sc_law.nd rfl (by first | exact Or.inl rfl | exact Or.inr rfl) (pe_op op_catU (pv 11) (pv 12)))))
      (pss_cons (ps_for PassesOwn.never rfl (pi_range1 (by rfl) T.n_range (pa_cons (pe_callB call_len_seq (by rfl) T.n_len PySem.boot_len (pa_cons (pv 11) pa_nil)) pa_nil)) (pg_name (i := 6) sc_law.nd rfl (by first | exact Or.inl rfl | exact Or.inr rfl)) (pss_one (ps_for PassesOwn.never rfl (pi_tup (pe_tup (pa_cons (pe_slice sl_tupU (pv 11) po_none (po_some (pv 6))) (pa_cons (pe_op op_catU (pe_op op_catU (pe_slice sl_tupU (pv 11) po_none (po_some (pv 6))) (pe_tup (pa_cons (pe_op op_mod (pe_op op_add (pe_op op_add (pe_ix ix_tup (pv 11) (pv 6) (fun _ _ => rfl)) pe_int) (pe_call G__law_take (hr.mono (by decide)) rfl T._law_take.m T._law_take.F.kp T._law_take.b .nil pass0 (pa_cons (pv 2) (pa_cons pe_int pa_nil)))) pe_int) pa_nil))) (pe_slice sl_tupU (pv 11) (po_some (pe_op op_add (pv 6) pe_int)) po_none)) pa_nil)))) (pg_name (i := 12) sc_law.nd rfl (by first | exact Or.inl rfl | exact Or.inr rfl)) (pss_cons (ps_asg (pe_call G__law_whole_frames (hr.mono (by decide)) rfl T._law_whole_frames.m T._law_whole_frames.F.kp T._law_whole_frames.b .nil pass0 (pa_cons (pv 12) pa_nil)) (pg_tup rfl (pgs_cons (pg_name (i := 13) sc_law.nd rfl (by first | exact Or.inl rfl | exact Or.inr rfl)) (pgs_cons (pg_name (i := 14) sc_law.nd rfl (by first | exact Or.inl rfl | exact Or.inr rfl)) (pgs_cons (pg_name (i := 15) sc_law.nd rfl (by first | exact Or.inl rfl | exact Or.inr rfl)) pgs_nil)))))
      (pss_one (ps_if (pt_not (pt_val (pe_call G__law_same (hr.mono (by decide)) rfl T._law_same.m T._law_same.F.kp T._law_same.b .nil pass0 (pa_cons (pe_call G_frames_of (hr.mono (by decide)) rfl T.frames_of.m T.frames_of.F.kp T.frames_of.b .nil pass0 (pa_cons (pv 12) pa_nil)) (pa_cons (pe_tup (pa_cons (pe_tupleOf rfl T.n_tuple (pv 13)) (pa_cons (pe_ifExp (pt_cmpR op_isN (pv 15) pe_non (nomark _)) pe_non (pe_tup (pa_cons (pv 15) (pa_cons (pe_callB call_len_seq (by rfl) T.n_len PySem.boot_len (pa_cons (pv 13) pa_nil)) pa_nil)))) pa_nil))) pa_nil))))) (pss_one (ps_ret pe_bl)) pss_nil))))))
      (pss_cons (ps_asg (pe_tup (pa_cons (pe_make0 T.Medium.make G_Medium_init (hr.mono (by decide)) rfl T.Medium.g T.Medium_init.b .nil pass0) (pa_cons (pe_disp (pps_cons pe_str (pe_tup (pa_cons (pe_tup pa_nil) (pa_cons pe_int (pa_cons pe_non pa_nil)))) (pps_cons pe_str (pe_tup (pa_cons (pe_tup pa_nil) (pa_cons pe_int (pa_cons pe_non pa_nil)))) (pps_cons pe_str (pe_tup (pa_cons (pe_tup pa_nil) (pa_cons pe_int (pa_cons pe_non pa_nil)))) pps_nil))) rfl rfl (by intro z; cases z) (by decide)) pa_nil))) (pg_tup rfl (pgs_cons (pg_name (i := 16) sc_law.nd rfl (by first | exact Or.inl rfl | exact Or.inr rfl)) (pgs_cons (pg_name (i := 17) sc_law.nd rfl (by first | exact Or.inl rfl | exact Or.inr rfl)) pgs_nil))))
      (pss_one (ps_for PassesOwn.never rfl (pi_range1 (by rfl) T.n_range (pa_cons pe_int pa_nil)) (pg_name (i := 3) sc_law.nd rfl (by first | exact Or.inl rfl | exact Or.inr rfl)) (pss_cons (ps_if (pt_not (pt_val (pe_call G__law_medium_turn (hr.mono (by decide)) rfl T._law_medium_turn.m T._law_medium_turn.F.kp T._law_medium_turn.b .nil pass0 (pa_cons (pv 2) (pa_cons (pv 16) (pa_cons (pv 17) pa_nil)))))) (pss_one (ps_ret pe_bl)) pss_nil)
      (pss_cons (ps_set (i := 18) sc_law.nd rfl (by first | exact Or.inl rfl | exact Or.inr rfl) (pe_tupleOf rfl T.n_tuple (pe_lc (own := [("name", 21)]) (g := gName 21) (tt := tYes) rfl sc_law.nd (pi_tup (pe_tup (pa_cons pe_str (pa_cons pe_str (pa_cons pe_str pa_nil))))) (blkOk_by (N := ["script", "k", "box", "turn", "value", "octets", "spot", "others", "told", "parts", "frames", "whole", "some", "found", "end", "tail", "medium", "files", "due", "kind", "payload", "name"]) (sc := defScope s_law) (by decide +kernel)) (fun _ _ _ _ _ => (pg_name (i := 21) sc_law.nd rfl (by first | exact Or.inl rfl | exact Or.inr rfl))) (fun _ _ _ _ _ => pts_nil) (fun _ _ _ _ _ => (pe_op (op_catUK rfl) (pe_ifExp (pt_cmpR op_notN (pe_ix (ix_tupK rfl) (pe_dget hu (pv 17) (pv 21) (fun _ _ => rfl)) pe_int (fun _ _ => rfl)) pe_non (nomark _)) (pe_tup (pa_cons (pe_op op_sub pe_int pe_int) pa_nil)) (pe_tup pa_nil)) (pe_tupRg rfl rfl T.n_tuple (prg_2 rfl T.n_range (pe_ix (ix_tupK rfl) (pe_dget hu (pv 17) (pv 21) (fun _ _ => rfl)) pe_int (fun _ _ => rfl)) (pe_op op_add (pe_callB (call_len_seqK rfl) (by rfl) T.n_len PySem.boot_len (pa_cons (pe_ix (ix_tupK rfl) (pe_dget hu (pv 17) (pv 21) (fun _ _ => rfl)) pe_int (fun _ _ => rfl)) pa_nil)) pe_int))))))))
      (pss_one (ps_if (pt_not (pt_val (pe_call G__law_same (hr.mono (by decide)) rfl T._law_same.m T._law_same.F.kp T._law_same.b .nil pass0 (pa_cons (pe_tup (pa_cons (pe_meth0 (pv 16) T.Medium.cl T.Medium_choices.mt G_Medium_choices (hr.mono (by decide)) T.Medium_choices.b .nil pass0) (pa_cons (pe_tupleOf rfl T.n_tuple (pe_lc (own := [("name", 21)]) (g := gName 21) (tt := tYes) rfl sc_law.nd (pi_tup (pe_tup (pa_cons pe_str (pa_cons pe_str (pa_cons pe_str pa_nil))))) (blkOk_by (N := ["script", "k", "box", "turn", "value", "octets", "spot", "others", "told", "parts", "frames", "whole", "some", "found", "end", "tail", "medium", "files", "due", "kind", "payload", "name"]) (sc := defScope s_law) (by decide +kernel)) (fun _ _ _ _ _ => (pg_name (i := 21) sc_law.nd rfl (by first | exact Or.inl rfl | exact Or.inr rfl))) (fun _ _ _ _ _ => pts_nil) (fun _ _ _ _ _ => (pe_methK0 T.Medium.cl T.Medium_read.mt G_Medium_read (hr.mono (by decide)) (kb_Medium_read_name T) pass0 (pv 16) (pk_cons (pv 21) pk_nil))))) pa_nil))) (pa_cons (pe_tup (pa_cons (pv 18) (pa_cons (pe_tupleOf rfl T.n_tuple (pe_lc (own := [("name", 21)]) (g := gName 21) (tt := tYes) rfl sc_law.nd (pi_tup (pe_tup (pa_cons pe_str (pa_cons pe_str (pa_cons pe_str pa_nil))))) (blkOk_by (N := ["script", "k", "box", "turn", "value", "octets", "spot", "others", "told", "parts", "frames", "whole", "some", "found", "end", "tail", "medium", "files", "due", "kind", "payload", "name"]) (sc := defScope s_law) (by decide +kernel)) (fun _ _ _ _ _ => (pg_name (i := 21) sc_law.nd rfl (by first | exact Or.inl rfl | exact Or.inr rfl))) (fun _ _ _ _ _ => pts_nil) (fun _ _ _ _ _ => (pe_ix (ix_tupK rfl) (pe_dget hu (pv 17) (pv 21) (fun _ _ => rfl)) pe_int (fun _ _ => rfl))))) pa_nil))) pa_nil))))) (pss_one (ps_ret pe_bl)) pss_nil))))))))))))))))
      (pss_one (ps_ret pe_bl)))), ?_⟩
    refine ⟨rfl, fun H1 s1 => ⟨_, rfl, iteF ?_⟩⟩
    refine ⟨_, rfl, sc, _, rfl, .inl (sqL_same hs s1), _, _, rfl, _, _, rfl, ?_⟩
    obtain ⟨mx, hmx, hm0, hm7⟩ : ∃ mx : Int, (if (if (7 : Int) < ((ns.map V.int).length : Nat) then (7 : Int) else ((ns.map V.int).length : Nat)) > 4 then (if (7 : Int) < ((ns.map V.int).length : Nat) then (7 : Int) else ((ns.map V.int).length : Nat)) else 4) = mx ∧ 0 ≤ mx ∧ mx ≤ 7 := by
      refine ⟨_, rfl, ?_⟩
      split <;> split <;> omega
    rw [hmx]
    refine ⟨mx, rfl, by omega, by omega, ?_⟩
    refine for_range (fun k σ H' => ∃ u1 u2 u3 u4 u5 u6 u7 u8 u9 u10 u11 u12 u13 u14 u15 u16 u17 u18 u19 u20 u21 : Option V, σ = [some (.ref sc), u1, u2, u3, u4, u5, u6, u7, u8, u9, u10, u11, u12, u13, u14, u15, u16, u17, u18, u19, u20, u21] ∧ Same H H') ⟨none, none, none, none, none, none, none, none, none, none, none, none, none, none, none, none, none, none, none, none, none, rfl, s1⟩ ?_ ?_
    · rintro k σ H2 hk ⟨u1, u2, u3, u4, u5, u6, u7, u8, u9, u10, u11, u12, u13, u14, u15, u16, u17, u18, u19, u20, u21, rfl, s2⟩
      refine ⟨_, rfl, _, rfl, sc, ns, _, rfl, sqL_same hs s2, by omega, fun b H3 g0 t0 hb s3 e3 => ?_⟩
      have bx3 : Box H3 b := ⟨g0, t0, e3⟩
      have hbH : H b = none := s2.free hb
      have sm : ∀ {H' : Hp}, But [b] H3 H' → Same H H' := fun bb => Same.but (s2.trans s3) bb (by simpa using hbH)
      refine ⟨5, rfl, by decide, by decide, ?_⟩
      refine for_range (fun j σ H' => ∃ u3 u4 u5 u6 u7 u8 : Option V, σ = [some (.ref sc), some (.int (0 + (k : Nat))), some (.ref b), u3, u4, u5, u6, u7, u8, u9, u10, u11, u12, u13, u14, u15, u16, u17, u18, u19, u20, u21] ∧ But [b] H3 H' ∧ Box H' b) ⟨u3, u4, u5, u6, u7, u8, rfl, But.refl, bx3⟩ ?_ ?_
      · rintro j σ H4 hj ⟨u3, u4, u5, u6, u7, u8, rfl, b4, bx4⟩
        -- value, octets, spot
        refine ⟨_, rfl, b, 3, rfl, bx4, by decide, fun v H5 d b5 bx5 hv gd hd hlen hct => ?_⟩
        have hlen' : (octs d).length ≤ 620 := hlen
        have hct' : (octs d).count 6 ≤ 215 := hct
        refine ⟨_, rfl, v, d, rfl, hv, gd, by omega, by omega, fun p H6 hp s6 e6 => .inl ⟨p, _, rfl, SqL.of e6, fun q5 hq5 => ?_⟩⟩
        have s7 : Same H6 (upd H6 q5 (.tup ((octs d).map V.int))) := same_new hq5
        have e7 : upd H6 q5 (.tup ((octs d).map V.int)) q5 = some (.tup ((octs d).map V.int)) := upd_same
        generalize upd H6 q5 (.tup ((octs d).map V.int)) = H7 at s7 e7 ⊢
        have hop := octs_pos d
        have hoct := octs_oct d gd
        have bx7 := bx5.same (s6.trans s7)
        have hlm : ((octs d).map V.int).length = (octs d).length := List.length_map ..
        refine ⟨_, rfl, _, rfl, q5, _, rfl, .inr (SqT.of e7), b, _, rfl, bx7, by rw [hlm]; omega, by rw [hlm]; omega, fun r H8 r0 r1 b8 bx8 nn8 => ?_⟩
        rw [hlm] at r1
        obtain ⟨n, rfl⟩ : ∃ n : Nat, r = n := ⟨r.toNat, by omega⟩
        have hn : n < (octs d).length := by omega
        have hv8 : Im K H8 v d := (hv.mono (Tk.same (s6.trans s7))).mono (Tk.but b8 bx7.noT)
        have h5 : SqT K H8 q5 ((octs d).map V.int) := Tk.but b8 bx7.noT _ _ (SqT.of e7)
        have b38 : But [b] H3 H8 := b4.trans (b5.trans ((But.of (s6.trans s7)).trans b8))
        -- others
        refine ⟨_, rfl, _, rfl, _, rfl, _, rfl, q5, _, rfl, h5, fun p1 H9 s9 h9 => ?_⟩
        rw [cut_nat, vI_take] at h9
        refine ⟨_, rfl, _, rfl, _, rfl, q5, _, rfl, Tk.same s9 _ _ h5, fun p2 H10 s10 h10 => ?_⟩
        rw [cut_to (by decide), vI_take] at h10
        have h10' : SqT K H10 p2 (((octs d).take 1).map V.int) := h10
        refine ⟨q5, p2, _, _, rfl, rfl, Tk.same (s9.trans s10) _ _ h5, h10', by rw [hlm, List.length_map, List.length_take, sizeLine_eq]; omega, fun p3 H11 s11 h11 => ?_⟩
        have s811 := s9.trans (s10.trans s11)
        refine ⟨_, rfl, _, rfl, _, rfl, q5, _, rfl, Tk.same s811 _ _ h5, fun p4 H12 s12 h12 => ?_⟩
        rw [cut_nat, vI_take] at h12
        have s812 := s811.trans s12
        have bx12 := bx8.same s812
        refine ⟨_, rfl, b, 256, rfl, bx12, by decide, by decide, fun y H13 y0 y1 b13 bx13 nn13 => ⟨(by show 1 ≤ sizeLine; decide), fun t14 ht14 => ?_⟩⟩
        have tk13 : Tk K H12 H13 := Tk.but b13 bx12.noT
        have s14 : Same H13 (upd H13 t14 (.tup [.int y])) := same_new ht14
        have e14 : upd H13 t14 (.tup [.int y]) t14 = some (.tup [.int y]) := upd_same
        generalize upd H13 t14 (.tup [.int y]) = H14 at s14 e14 ⊢
        have tk814 : Tk K H8 H14 := (Tk.same s812).trans (tk13.trans (Tk.same s14))
        refine ⟨p4, t14, _, _, rfl, rfl, (tk13.trans (Tk.same s14)) _ _ h12, SqT.of e14, by rw [List.length_map, List.length_take, sizeLine_eq]; show _ + 1 ≤ _; omega, fun p15 H15 s15 h15 => ?_⟩
        have tk815 := tk814.trans (Tk.same s15)
        refine ⟨_, rfl, _, rfl, _, _, rfl, rfl, _, rfl, q5, _, rfl, tk815 _ _ h5, fun p16 H16 s16 h16 => ?_⟩
        rw [cut_from (by omega) (by rw [hlm]; omega), vI_drop] at h16
        have en1 : (((n : Nat) : Int) + 1).toNat = n + 1 := by omega
        rw [en1] at h16
        refine ⟨p15, p16, _, _, rfl, rfl, Tk.same s16 _ _ h15, h16, by rw [List.length_append, List.length_map, List.length_map, List.length_take, List.length_drop, sizeLine_eq]; show _ + 1 + _ ≤ _; omega, fun p17 H17 s17 h17 => ?_⟩
        have tk817 := tk815.trans (Tk.same (s16.trans s17))
        refine ⟨_, rfl, _, rfl, _, rfl, q5, _, rfl, tk817 _ _ h5, fun p18 H18 s18 h18 => ⟨(by show 2 ≤ sizeLine; decide), fun t19 ht19 => ?_⟩⟩
        rw [cut_nat, vI_take] at h18
        have s19 : Same H18 (upd H18 t19 (.tup [.int 128, .int 0])) := same_new ht19
        have e19 : upd H18 t19 (.tup [.int 128, .int 0]) t19 = some (.tup [.int 128, .int 0]) := upd_same
        generalize upd H18 t19 (.tup [.int 128, .int 0]) = H19 at s19 e19 ⊢
        refine ⟨p18, t19, _, _, rfl, rfl, Tk.same s19 _ _ h18, SqT.of e19, by rw [List.length_map, List.length_take, sizeLine_eq]; show _ + 2 ≤ _; omega, fun p20 H20 s20 h20 => ?_⟩
        have tk820 := tk817.trans (Tk.same (s18.trans (s19.trans s20)))
        refine ⟨_, rfl, _, rfl, _, rfl, q5, _, rfl, tk820 _ _ h5, fun p21 H21 s21 h21 => ?_⟩
        rw [cut_from (by omega) (by rw [hlm]; omega), vI_drop, Int.toNat_natCast] at h21
        refine ⟨p20, p21, _, _, rfl, rfl, Tk.same s21 _ _ h20, h21, by rw [List.length_append, List.length_map, List.length_map, List.length_take, List.length_drop, sizeLine_eq]; show _ + 2 + _ ≤ _; omega, fun p22 H22 s22 h22 => ?_⟩
        have tk822 := tk820.trans (Tk.same (s21.trans s22))
        refine ⟨(by show 2 ≤ sizeLine; decide), fun t23 ht23 => ?_⟩
        have s23 : Same H22 (upd H22 t23 (.tup [.int 6, .int 99])) := same_new ht23
        have e23 : upd H22 t23 (.tup [.int 6, .int 99]) t23 = some (.tup [.int 6, .int 99]) := upd_same
        generalize upd H22 t23 (.tup [.int 6, .int 99]) = H23 at s23 e23 ⊢
        have tk823 := tk822.trans (Tk.same s23)
        refine ⟨_, rfl, t23, q5, _, _, rfl, rfl, SqT.of e23, tk823 _ _ h5, by rw [hlm, sizeLine_eq]; show 2 + _ ≤ _; omega, fun p24 H24 s24 h24 => ?_⟩
        have bx24 : Box H24 b := bx13.same (s14.trans (s15.trans (s16.trans (s17.trans (s18.trans (s19.trans (s20.trans (s21.trans (s22.trans (s23.trans s24))))))))))
        refine ⟨_, rfl, b, 256, rfl, bx24, by decide, by decide, fun z H25 z0 z1 b25 bx25 nn25 => ⟨(by show 3 ≤ sizeLine; decide), fun t26 ht26 => ?_⟩⟩
        have tk25 : Tk K H24 H25 := Tk.but b25 bx24.noT
        have s26 : Same H25 (upd H25 t26 (.tup [.int 5, .int 1, .int z])) := same_new ht26
        have e26 : upd H25 t26 (.tup [.int 5, .int 1, .int z]) t26 = some (.tup [.int 5, .int 1, .int z]) := upd_same
        generalize upd H25 t26 (.tup [.int 5, .int 1, .int z]) = H26 at s26 e26 ⊢
        refine ⟨(by show 2 ≤ sizeLine; decide), fun t27 ht27 => ?_⟩
        have s27 : Same H26 (upd H26 t27 (.tup [.int 4, .int 0])) := same_new ht27
        have e27 : upd H26 t27 (.tup [.int 4, .int 0]) t27 = some (.tup [.int 4, .int 0]) := upd_same
        generalize upd H26 t27 (.tup [.int 4, .int 0]) = H27 at s27 e27 ⊢
        refine ⟨(by show 1 ≤ sizeLine; decide), fun t28 ht28 => ?_⟩
        have s28 : Same H27 (upd H27 t28 (.tup [.int 9])) := same_new ht28
        have e28 : upd H27 t28 (.tup [.int 9]) t28 = some (.tup [.int 9]) := upd_same
        generalize upd H27 t28 (.tup [.int 9]) = H28 at s28 e28 ⊢
        refine ⟨(by show 9 ≤ sizeLine; decide), fun lo hlo => ?_⟩
        have s29 : Same H28 (upd H28 lo (.lst [.ref q5, .ref p1, .ref p3, .ref p17, .ref p22, .ref p24, .ref t26, .ref t27, .ref t28])) := same_new hlo
        have e29 : upd H28 lo (.lst [.ref q5, .ref p1, .ref p3, .ref p17, .ref p22, .ref p24, .ref t26, .ref t27, .ref t28]) lo = some (.lst [.ref q5, .ref p1, .ref p3, .ref p17, .ref p22, .ref p24, .ref t26, .ref t27, .ref t28]) := upd_same
        generalize upd H28 lo (.lst [.ref q5, .ref p1, .ref p3, .ref p17, .ref p22, .ref p24, .ref t26, .ref t27, .ref t28]) = H29 at s29 e29 ⊢
        have s2529 := s26.trans (s27.trans (s28.trans s29))
        have tk2429 : Tk K H24 H29 := tk25.trans (Tk.same s2529)
        have tk2229 : Tk K H22 H29 := (Tk.same (s23.trans s24)).trans tk2429
        have tk1729 : Tk K H17 H29 := (Tk.same (s18.trans (s19.trans (s20.trans (s21.trans s22))))).trans tk2229
        have tk1129 : Tk K H11 H29 := (Tk.same s12).trans (tk13.trans ((Tk.same (s14.trans (s15.trans (s16.trans s17)))).trans tk1729))
        have tk929 : Tk K H9 H29 := (Tk.same (s10.trans s11)).trans tk1129
        have tk829 : Tk K H8 H29 := (Tk.same s9).trans tk929
        have b29 : But [b] H3 H29 := b38.trans ((But.of s812).trans (b13.trans ((But.of (s14.trans (s15.trans (s16.trans (s17.trans (s18.trans (s19.trans (s20.trans (s21.trans (s22.trans (s23.trans s24))))))))))).trans (b25.trans (But.of s2529)))))
        have bx29 := bx25.same s2529
        have hOk := others_ok (y := y) (z := z) gd hlen' hct' hn ⟨y0, y1⟩ ⟨z0, z1⟩
        have iO : ImL K H29 [.ref q5, .ref p1, .ref p3, .ref p17, .ref p22, .ref p24, .ref t26, .ref t27, .ref t28] ((othersL (octs d) n y z).map tI) := by
          refine .cons (Im.tI (tk829 _ _ h5)) (.cons (Im.tI (tk929 _ _ h9)) (.cons (Im.tI ?_) (.cons (Im.tI ?_) (.cons (Im.tI ?_) (.cons (Im.tI ?_) (.cons (Im.tI (ns := [5, 1, z]) (SqT.of ((s27.trans (s28.trans s29)) _ _ e26))) (.cons (Im.tI (ns := [4, 0]) (SqT.of ((s28.trans s29) _ _ e27))) (.cons (Im.tI (ns := [9]) (SqT.of (s29 _ _ e28))) .nil))))))))
          · rw [List.map_append]; exact tk1129 _ _ h11
          · rw [List.map_append, List.map_append]; exact tk1729 _ _ h17
          · rw [List.map_append, List.map_append]; exact tk2229 _ _ h22
          · rw [List.map_append]; exact tk2429 _ _ h24
        have hv29 := hv8.mono tk829
        have h529 := tk829 _ _ h5
        have hO9 : (othersL (octs d) n y z).length = 9 := rfl
        generalize hOO : othersL (octs d) n y z = O at hOk iO hO9
        have hO0 : O[0]? = some (octs d) := by rw [← hOO]; rfl
        generalize ([.ref q5, .ref p1, .ref p3, .ref p17, .ref p22, .ref p24, .ref t26, .ref t27, .ref t28] : List V) = Lo at e29 iO
        have hLo := iO.len
        rw [List.length_map, hO9] at hLo
        -- told
        have getO : ∀ {j : Nat} {x : V} {H' : Hp}, Lo[j]? = some x → Same H29 H' → ∃ l gx, O[j]? = some l ∧ x = .ref gx ∧ SqT K H' gx (l.map V.int) ∧ OkO l := fun {j x H'} hx s' => by
          obtain ⟨dd, hdd, hid⟩ := iO.get hx
          rw [List.getElem?_map] at hdd
          cases hl : O[j]? with
          | none => rw [hl] at hdd; cases hdd
          | some l =>
            rw [hl] at hdd
            have e2 : tI l = dd := Option.some.inj hdd
            subst e2
            obtain ⟨gx, rfl, hgx⟩ := hid.to_tI
            exact ⟨l, gx, rfl, rfl, Tk.same s' _ _ hgx, hOk l (List.mem_of_getElem? hl)⟩
        refine ⟨_, rfl, lo, rfl, ⟨Lo, SqL.of e29⟩, fun Dd hD => lc_list (xs := Lo) (fun j H' => ∃ ws, H' Dd = some (.lst ws) ∧ ImL K H' ws ((O.take j).map fun l => resD (read l)) ∧ ws.length = j ∧ Same H29 H') ⟨[], upd_same, .nil, rfl, same_new hD⟩ (fun j H' hj ⟨ws, e30, i30, l30, s30⟩ => SqL.of (s30 _ _ e29)) ?_ ?_⟩
        · rintro j' x H30 hx ⟨ws, e30, i30, l30, s30⟩
          obtain ⟨l, gx, hl, rfl, hgx, ok⟩ := getO hx s30
          have hj9 := (List.getElem?_eq_some_iff.mp hx).1
          refine ⟨rfl, _, rfl, gx, l, rfl, hgx, ok.oct, ok.cap, by have := ok.len; omega, fun wv H31 s31 hw => ?_⟩
          have e31 := s31 _ _ e30
          have tk32 : Tk K H31 (upd H31 Dd (.lst (ws ++ [wv]))) := Tk.but (But.upd (S := [Dd]) (by simp)) (noT_lst e31 noT_nil)
          refine ⟨ws, e31, by rw [l30, sizeLine_eq]; omega, ws ++ [wv], upd_same, ?_, by rw [List.length_append, l30]; rfl, Same.put (s30.trans s31) hD⟩
          rw [take_snoc hl, List.map_append]
          exact (i30.mono ((Tk.same s31).trans tk32)).app (.cons (hw.mono tk32) .nil)
        rintro H30 ⟨ws, e30, i30, l30, s30⟩
        have htO : O.take Lo.length = O := by rw [hLo, ← hO9, List.take_length]
        rw [htO] at i30
        rw [hLo] at l30
        -- packed and what was told, against the law's own
        refine ⟨_, rfl, v, d, rfl, hv29.mono (Tk.same s30), gd, by omega, fun pk H32 s32 hpk => ⟨(by show 1 ≤ sizeLine; decide), fun t33 ht33 => ?_⟩⟩
        have s33 : Same H32 (upd H32 t33 (.tup [.ref pk])) := same_new ht33
        have e33 : upd H32 t33 (.tup [.ref pk]) t33 = some (.tup [.ref pk]) := upd_same
        generalize upd H32 t33 (.tup [.ref pk]) = H33 at s33 e33 ⊢
        refine ⟨_, rfl, .inl ⟨Dd, ws, rfl, SqL.of (s33 _ _ (s32 _ _ e30)), fun t34 ht34 => ?_⟩⟩
        have s34 : Same H33 (upd H33 t34 (.tup ws)) := same_new ht34
        have e34 : upd H33 t34 (.tup ws) t34 = some (.tup ws) := upd_same
        generalize upd H33 t34 (.tup ws) = H34 at s34 e34 ⊢
        refine ⟨t33, t34, _, _, rfl, rfl, SqT.of (s34 _ _ e33), SqT.of e34, by rw [l30]; show 1 + 9 ≤ sizeLine; decide, fun p35 H35 s35 h35 => ?_⟩
        have s3035 : Same H30 H35 := s32.trans (s33.trans (s34.trans s35))
        have im1 : Im K H35 (.ref p35) (.tup (tI (octs d) :: O.map fun l => resD (read l))) :=
          .tup h35 (.cons ((Im.tI hpk).mono (Tk.same (s33.trans (s34.trans s35)))) (i30.mono (Tk.same s3035)))
        have s2935 : Same H29 H35 := s30.trans s3035
        refine ⟨_, rfl, (by show 1 ≤ sizeLine; decide), fun t36 ht36 => ?_⟩
        have s36 : Same H35 (upd H35 t36 (.tup [.ref q5])) := same_new ht36
        have e36 : upd H35 t36 (.tup [.ref q5]) t36 = some (.tup [.ref q5]) := upd_same
        generalize upd H35 t36 (.tup [.ref q5]) = H36 at s36 e36 ⊢
        have s2936 : Same H29 H36 := s2935.trans s36
        refine ⟨_, rfl, lo, rfl, ⟨Lo, SqL.of (s2936 _ _ e29)⟩, fun D2 hD2 => lc_list (xs := Lo) (fun j H' => ∃ ws, H' D2 = some (.lst ws) ∧ ImL K H' ws ((O.take j).map fun l => resD (read l)) ∧ ws.length = j ∧ Same H36 H') ⟨[], upd_same, .nil, rfl, same_new hD2⟩ (fun j H' hj ⟨ws, e37, i37, l37, s37⟩ => SqL.of (s37 _ _ (s2936 _ _ e29))) ?_ ?_⟩
        · rintro j' x H37 hx ⟨ws, e37, i37, l37, s37⟩
          obtain ⟨l, gx, hl, rfl, hgx, ok⟩ := getO hx (s2936.trans s37)
          have hj9 := (List.getElem?_eq_some_iff.mp hx).1
          refine ⟨rfl, _, rfl, gx, l, rfl, hgx, ok.oct, ok.cap, by have := ok.len; omega, fun wv H38 s38 hw => ?_⟩
          have e38 := s38 _ _ e37
          have tk38 : Tk K H38 (upd H38 D2 (.lst (ws ++ [wv]))) := Tk.but (But.upd (S := [D2]) (by simp)) (noT_lst e38 noT_nil)
          refine ⟨ws, e38, by rw [l37, sizeLine_eq]; omega, ws ++ [wv], upd_same, ?_, by rw [List.length_append, l37]; rfl, Same.put (s37.trans s38) hD2⟩
          rw [take_snoc hl, List.map_append]
          exact (i37.mono ((Tk.same s38).trans tk38)).app (.cons (hw.mono tk38) .nil)
        rintro H37 ⟨ws2, e37, i37, l37, s37⟩
        rw [htO] at i37
        rw [hLo] at l37
        refine .inl ⟨D2, ws2, rfl, SqL.of e37, fun t38 ht38 => ?_⟩
        have s38 : Same H37 (upd H37 t38 (.tup ws2)) := same_new ht38
        have e38 : upd H37 t38 (.tup ws2) t38 = some (.tup ws2) := upd_same
        generalize upd H37 t38 (.tup ws2) = H38 at s38 e38 ⊢
        have s3638 : Same H36 H38 := s37.trans s38
        refine ⟨t36, t38, _, _, rfl, rfl, SqT.of (s3638 _ _ e36), SqT.of e38, by rw [l37]; show 1 + 9 ≤ sizeLine; decide, fun p39 H39 s39 h39 => ?_⟩
        have s3639 : Same H36 H39 := s3638.trans s39
        have s2939 : Same H29 H39 := s2936.trans s3639
        have im2 : Im K H39 (.ref p39) (.tup (tI (octs d) :: O.map fun l => resD (read l))) :=
          .tup h39 (.cons (Im.tI (Tk.same s2939 _ _ h529)) (i37.mono (Tk.same (s38.trans s39))))
        have hdp : dp (.tup (tI (octs d) :: O.map fun l => resD (read l))) < 220 := by
          have h1 := dp_tI (octs d)
          have h2 : dpL (O.map fun l => resD (read l)) ≤ 218 := dpL_le fun x hx => by
            obtain ⟨l, hl, rfl⟩ := List.mem_map.mp hx
            have := dp_resD l
            have := (hOk l hl).ct
            omega
          show 1 + max (dp (tI (octs d))) (dpL (O.map fun l => resD (read l))) < 220
          omega
        refine ⟨.ref p35, .ref p39, _, rfl, im1.mono (Tk.same (s36.trans s3639)), im2, hdp, fun H40 s40 => ⟨_, rfl, iteF ?_⟩⟩
        have s3040 : Same H30 H40 := s3035.trans (s36.trans (s3639.trans s40))
        have i40 := i30.mono (Tk.same s3040)
        obtain ⟨w0, hw0⟩ : ∃ w0, ws[0]? = some w0 := ⟨ws[0]'(by omega), by simp⟩
        obtain ⟨d0, hd0, hi0⟩ := i40.get hw0
        rw [List.getElem?_map, hO0] at hd0
        have ed0 : resD (read (octs d)) = d0 := Option.some.inj hd0
        rw [read_octs gd] at ed0
        subst ed0
        refine ⟨_, rfl, Dd, ws, 0, w0, rfl, rfl, SqL.of (s3040 _ _ e30), at_nat (i := 0) hw0, _, rfl, (by show 2 ≤ sizeLine; decide), fun t41 ht41 => ?_⟩
        have s41 : Same H40 (upd H40 t41 (.tup [.bl true, v])) := same_new ht41
        have e41 : upd H40 t41 (.tup [.bl true, v]) t41 = some (.tup [.bl true, v]) := upd_same
        generalize upd H40 t41 (.tup [.bl true, v]) = H41 at s41 e41 ⊢
        have s2941 : Same H29 H41 := s2939.trans (s40.trans s41)
        have hv41 := hv29.mono (Tk.same s2941)
        refine ⟨_, _, (hi0.mono (Tk.same s41)).dp, (Im.tup (SqT.of e41) (.cons (.bl true) (.cons hv41 .nil)) : Im K H41 (.ref t41) (.tup [.bl true, d])).dp, sh_good gd (by omega), sh_good gd (by omega), _, rfl, ?_⟩
        have eqg := eq_good gd
        have eqg' : PyData.eqv (toP (resD (.ok d))) (toP (.tup [.bl true, d])) = true := eqg
        rw [eqg']
        refine iteF ?_
        exact ⟨_, _, _, _, _, _, rfl, b29.trans (But.of s2941), bx29.same s2941⟩
      · rintro σ H4 ⟨u3, u4, u5, u6, u7, u8, rfl, b4, bx4⟩
        -- parts
        refine ⟨_, rfl, b, 3, rfl, bx4, by decide, by decide, fun r H5 r0 r1 b5 bx5 nn5 => ⟨_, _, rfl, rfl, _, rfl, by omega, by omega, fun Dp hDp => ?_⟩⟩
        have hDpb := box_ne bx5 hDp
        refine lc_range (fun j H' => ∃ (ws : List V) (ps : List (Int × List Int)), H' Dp = some (.lst ws) ∧ ImL K H' ws (ps.map frD) ∧ ws.length = j ∧ (∀ x ∈ ps, PtOk x) ∧ But [b] H5 H' ∧ Box H' b) ⟨[], [], upd_same, .nil, rfl, fun x hx => (by cases hx), But.of (same_new hDp), bx5.same (same_new hDp)⟩ ?_ ?_
        · rintro j H6 hj ⟨ws, ps, e6, i6, l6, ok6, b6, bx6⟩
          refine ⟨rfl, _, rfl, b, 256, rfl, bx6, by decide, by decide, fun kk H7 k0 k1 b7 bx7 nn7 => ?_⟩
          refine ⟨_, rfl, b, 7, rfl, bx7, by decide, by decide, fun mm H8 m0 m1 b8 bx8 nn8 => ⟨mm, rfl, by omega, by omega, fun D2 hD2 => ?_⟩⟩
          have hD2b := box_ne bx8 hD2
          refine lc_range (fun i H' => ∃ ls : List Int, H' D2 = some (.lst (ls.map V.int)) ∧ ls.length = i ∧ Oct ls ∧ But [b] H8 H' ∧ Box H' b) ⟨[], upd_same, rfl, .nil, But.of (same_new hD2), bx8.same (same_new hD2)⟩ ?_ ?_
          · rintro i H9 hi ⟨ls, e9, l9, o9, b9, bx9⟩
            refine ⟨rfl, _, rfl, b, 256, rfl, bx9, by decide, by decide, fun y H10 y0 y1 b10 bx10 nn10 => ⟨_, b10 _ _ (by simpa using hD2b) e9, by rw [List.length_map, l9, sizeLine_eq]; omega, ls ++ [y], by rw [upd_same, List.map_append]; rfl, by rw [List.length_append, l9]; rfl, o9.app (.cons ⟨y0, y1⟩ .nil), But.put (b9.trans b10) hD2, box_keep bx10 hD2b rfl⟩⟩
          rintro H9 ⟨ls, e9, l9, o9, b9, bx9⟩
          refine .inl ⟨D2, _, rfl, SqL.of e9, fun q10 hq10 => ?_⟩
          have s10 : Same H9 (upd H9 q10 (.tup (ls.map V.int))) := same_new hq10
          have e10 : upd H9 q10 (.tup (ls.map V.int)) q10 = some (.tup (ls.map V.int)) := upd_same
          generalize upd H9 q10 (.tup (ls.map V.int)) = H10 at s10 e10 ⊢
          refine ⟨(by show 2 ≤ sizeLine; decide), fun t11 ht11 => ?_⟩
          have s11 : Same H10 (upd H10 t11 (.tup [.int kk, .ref q10])) := same_new ht11
          have e11 : upd H10 t11 (.tup [.int kk, .ref q10]) t11 = some (.tup [.int kk, .ref q10]) := upd_same
          generalize upd H10 t11 (.tup [.int kk, .ref q10]) = H11 at s11 e11 ⊢
          have b611 : But [b] H6 H11 := b7.trans (b8.trans (b9.trans (But.of (s10.trans s11))))
          have e611 : H11 Dp = some (.lst ws) := b611 _ _ (by simpa using hDpb) e6
          have tk11 : Tk K H11 (upd H11 Dp (.lst (ws ++ [.ref t11]))) := Tk.but (But.upd (S := [Dp]) (by simp)) (noT_lst e611 noT_nil)
          refine ⟨ws, e611, by rw [l6, sizeLine_eq]; omega, ws ++ [.ref t11], ps ++ [(kk, ls)], upd_same, ?_, by rw [List.length_append, l6]; rfl, fun x hx => ?_, But.put (b6.trans b611) hDp, box_keep (bx9.same (s10.trans s11)) hDpb rfl⟩
          · rw [List.map_append]
            exact (i6.mono ((Tk.but b611 bx6.noT).trans tk11)).app (.cons (.tup (tk11 _ _ (SqT.of e11)) (.cons (.int kk) (.cons (Im.tI (tk11 _ _ (SqT.of (s11 _ _ e10)))) .nil))) .nil)
          · rcases List.mem_append.mp hx with hx | hx
            · exact ok6 x hx
            · rw [List.mem_singleton.mp hx]
              exact ⟨⟨k0, k1⟩, o9, by show ls.length ≤ 6; omega⟩
        rintro H6 ⟨ws, ps, e6, i6, l6, ok6, b6, bx6⟩
        have hwl := i6.len
        rw [List.length_map] at hwl
        have hps3 : ps.length ≤ 3 := by omega
        have b36 : But [b] H3 H6 := b4.trans (b5.trans b6)
        have getP : ∀ {j : Nat} {x : V} {H' : Hp}, ws[j]? = some x → Same H6 H' → ∃ q a gp, ps[j]? = some q ∧ x = .ref a ∧ SqT K H' a [.int q.1, .ref gp] ∧ SqT K H' gp (q.2.map V.int) ∧ PtOk q := fun {j x H'} hx s' => by
          obtain ⟨dd, hdd, hid⟩ := i6.get hx
          rw [List.getElem?_map] at hdd
          cases hl : ps[j]? with
          | none => rw [hl] at hdd; cases hdd
          | some q =>
            rw [hl] at hdd
            have e2 : frD q = dd := Option.some.inj hdd
            subst e2
            obtain ⟨a, gp, rfl, h1, h2⟩ := frD_out hid
            exact ⟨q, a, gp, rfl, rfl, Tk.same s' _ _ h1, Tk.same s' _ _ h2, ok6 q (List.mem_of_getElem? hl)⟩
        have htP : ps.take ws.length = ps := by rw [hwl, List.take_length]
        -- frames
        refine ⟨_, rfl, Dp, rfl, ⟨ws, SqL.of e6⟩, fun Df hDf => lc_list (xs := ws) (fun j H' => ∃ fs, H' Df = some (.lst fs) ∧ ImL K H' fs ((ps.take j).map fun x => tI (frO x)) ∧ fs.length = j ∧ Same H6 H') ⟨[], upd_same, .nil, rfl, same_new hDf⟩ (fun j H' hj ⟨fs, e7, i7, l7, s7⟩ => SqL.of (s7 _ _ e6)) ?_ ?_⟩
        · rintro j x H7 hx ⟨fs, e7, i7, l7, s7⟩
          obtain ⟨qq, a, gp, hq, rfl, ha, hgp, ok⟩ := getP hx s7
          have hj3 := (List.getElem?_eq_some_iff.mp hx).1
          refine ⟨a, _, rfl, ha, rfl, _, _, rfl, _, _, rfl, rfl, rfl, _, rfl, _, rfl, qq.1, gp, qq.2, rfl, hgp, by have := ok.2.2; omega, fun p8 H8 s8 h8 => ?_⟩
          have e8 := s8 _ _ e7
          have tk8 : Tk K H8 (upd H8 Df (.lst (fs ++ [.ref p8]))) := Tk.but (But.upd (S := [Df]) (by simp)) (noT_lst e8 noT_nil)
          refine ⟨fs, e8, by rw [l7, sizeLine_eq]; omega, fs ++ [.ref p8], upd_same, ?_, by rw [List.length_append, l7]; rfl, Same.put (s7.trans s8) hDf⟩
          rw [take_snoc hq, List.map_append]
          exact (i7.mono ((Tk.same s8).trans tk8)).app (.cons (Im.tI (tk8 _ _ h8)) .nil)
        rintro H7 ⟨fs, e7, i7, l7, s7⟩
        rw [htP] at i7
        -- the frames and the law's own
        refine ⟨_, rfl, .inl ⟨Df, fs, rfl, SqL.of e7, fun t8 ht8 => ?_⟩⟩
        have s8 : Same H7 (upd H7 t8 (.tup fs)) := same_new ht8
        have e8 : upd H7 t8 (.tup fs) t8 = some (.tup fs) := upd_same
        generalize upd H7 t8 (.tup fs) = H8 at s8 e8 ⊢
        have s68 := s7.trans s8
        refine ⟨_, rfl, Dp, rfl, ⟨ws, SqL.of (s68 _ _ e6)⟩, fun Dg hDg => lc_list (xs := ws) (fun j H' => ∃ gs, H' Dg = some (.lst gs) ∧ ImL K H' gs ((ps.take j).map fun x => tI (frO x)) ∧ gs.length = j ∧ Same H8 H') ⟨[], upd_same, .nil, rfl, same_new hDg⟩ (fun j H' hj ⟨gs, e9, i9, l9, s9⟩ => SqL.of (s9 _ _ (s68 _ _ e6))) ?_ ?_⟩
        · rintro j x H9 hx ⟨gs, e9, i9, l9, s9⟩
          obtain ⟨qq, a, gp, hq, rfl, ha, hgp, ok⟩ := getP hx (s68.trans s9)
          have hj3 := (List.getElem?_eq_some_iff.mp hx).1
          refine ⟨a, _, rfl, ha, rfl, _, _, rfl, _, _, rfl, rfl, rfl, _, rfl, _, rfl, qq.1, gp, qq.2, rfl, .inl hgp, by have := ok.2.2; omega, fun p10 H10 s10 hp10 h10 => .inl ⟨p10, _, rfl, SqL.of h10, fun t11 ht11 => ?_⟩⟩
          have s11 : Same H10 (upd H10 t11 (.tup ((frameL qq.1 qq.2).map V.int))) := same_new ht11
          have e11 : upd H10 t11 (.tup ((frameL qq.1 qq.2).map V.int)) t11 = some (.tup ((frameL qq.1 qq.2).map V.int)) := upd_same
          generalize upd H10 t11 (.tup ((frameL qq.1 qq.2).map V.int)) = H11 at s11 e11 ⊢
          have e911 := s11 _ _ (s10 _ _ e9)
          have tk11 : Tk K H11 (upd H11 Dg (.lst (gs ++ [.ref t11]))) := Tk.but (But.upd (S := [Dg]) (by simp)) (noT_lst e911 noT_nil)
          refine ⟨gs, e911, by rw [l9, sizeLine_eq]; omega, gs ++ [.ref t11], upd_same, ?_, by rw [List.length_append, l9]; rfl, Same.put (s9.trans (s10.trans s11)) hDg⟩
          rw [take_snoc hq, List.map_append]
          exact (i9.mono ((Tk.same (s10.trans s11)).trans tk11)).app (.cons (Im.tI (tk11 _ _ (SqT.of e11))) .nil)
        rintro H9 ⟨gs, e9, i9, l9, s9⟩
        rw [htP] at i9
        refine .inl ⟨Dg, gs, rfl, SqL.of e9, fun t10 ht10 => ?_⟩
        have s10 : Same H9 (upd H9 t10 (.tup gs)) := same_new ht10
        have e10 : upd H9 t10 (.tup gs) t10 = some (.tup gs) := upd_same
        generalize upd H9 t10 (.tup gs) = H10 at s10 e10 ⊢
        have s810 : Same H8 H10 := s9.trans s10
        have hdpf : dp (.tup (ps.map fun x => tI (frO x))) < 220 := by
          have h2 : dpL (ps.map fun x => tI (frO x)) ≤ 1 := dpL_le fun x hx => by
            obtain ⟨l, hl, rfl⟩ := List.mem_map.mp hx
            exact dp_tI _
          show 1 + dpL (ps.map fun x => tI (frO x)) < 220
          omega
        refine ⟨.ref t8, .ref t10, .tup (ps.map fun x => tI (frO x)), rfl, .tup (SqT.of (s810 _ _ e8)) (i7.mono (Tk.same (s8.trans s810))), .tup (SqT.of e10) (i9.mono (Tk.same s10)), hdpf, fun H11 s11 => ⟨_, rfl, iteF ?_⟩⟩
        have s711 : Same H7 H11 := s8.trans (s810.trans s11)
        -- whole
        refine ⟨Nat.zero_le _, fun w0 hw0 => ?_⟩
        have s12 : Same H11 (upd H11 w0 (.tup [])) := same_new hw0
        have e12 : upd H11 w0 (.tup []) w0 = some (.tup []) := upd_same
        generalize upd H11 w0 (.tup []) = H12 at s12 e12 ⊢
        have s712 : Same H7 H12 := s711.trans s12
        have hfl := i7.len
        rw [List.length_map] at hfl
        have hwo := whole_ok ps ok6
        refine ⟨_, rfl, Df, rfl, ⟨fs, SqL.of (s712 _ _ e7)⟩, for_list (xs := fs) (fun i σ H' => ∃ (wp : Addr) (u12 : Option V), σ = [some (.ref sc), some (.int (0 + (k : Nat))), some (.ref b), u3, u4, u5, u6, u7, u8, some (.ref Dp), some (.ref Df), some (.ref wp), u12, u13, u14, u15, u16, u17, u18, u19, u20, u21] ∧ SqT K H' wp (((ps.take i).map frO).flatten.map V.int) ∧ Same H12 H') ⟨w0, u12, rfl, SqT.of e12, Same.refl _⟩ (fun i σ H' hi ⟨wp, u, _, hwp, s13⟩ => SqL.of (s13 _ _ (s712 _ _ e7))) ?_ ?_⟩
        · rintro i x σ H13 hx ⟨wp, u, rfl, hwp, s13⟩
          have i13 := i7.mono (Tk.same (s712.trans s13))
          obtain ⟨dd, hdd, hid⟩ := i13.get hx
          rw [List.getElem?_map] at hdd
          cases hl : ps[i]? with
          | none => rw [hl] at hdd; cases hdd
          | some qq =>
            rw [hl] at hdd
            have e2 : tI (frO qq) = dd := Option.some.inj hdd
            subst e2
            obtain ⟨gx, rfl, hgx⟩ := hid.to_tI
            have hti := whole_ok (ps.take i) fun x hx => ok6 x (List.mem_of_mem_take hx)
            have hq := ok6 qq (List.mem_of_getElem? hl)
            refine ⟨_, rfl, _, rfl, wp, gx, _, _, rfl, rfl, hwp, hgx, ?_, fun p14 H14 s14 h14 => ⟨p14, _, rfl, ?_, s13.trans s14⟩⟩
            · have h1 := hti.2
              have h2 : (frO qq).length ≤ 13 := by
                show (frameL qq.1 qq.2).length ≤ 13
                rw [frame_len]
                have := hq.2.2
                omega
              have h3 : (ps.take i).length ≤ 3 := by rw [List.length_take]; omega
              rw [List.length_map, List.length_map, sizeLine_eq]
              omega
            · rw [take_snoc hl, List.map_append, List.flatten_append, List.map_append]
              have ee : (([qq] : List (Int × List Int)).map frO).flatten = frO qq := by simp
              rw [ee]
              exact h14
        rintro σ H13 ⟨wp, u12', rfl, hwp, s13⟩
        rw [show ps.take fs.length = ps by rw [hfl, List.take_length]] at hwp
        have hWoct := hwo.1
        have hWlen : (ps.map frO).flatten.length ≤ 39 := by have := hwo.2; omega
        generalize (ps.map frO).flatten = W at hwp hWoct hWlen
        have b313 : But [b] H3 H13 := b36.trans ((But.of (s7.trans (s712.trans s13))))
        have bx13 : Box H13 b := bx6.same (s7.trans (s712.trans s13))
        have hWm : (W.map V.int).length = W.length := List.length_map ..
        refine ⟨_, rfl, wp, _, rfl, .inr hwp, _, rfl, by rw [hWm]; omega, by rw [hWm]; omega, ?_⟩
        have hWt : (((W.map V.int).length : Nat) : Int).toNat = W.length := by rw [hWm]; omega
        rw [hWt]
        refine for_range (fun i σ H' => ∃ v6 v12 v13 v14 v15 : Option V, σ = [some (.ref sc), some (.int (0 + (k : Nat))), some (.ref b), u3, u4, u5, v6, u7, u8, some (.ref Dp), some (.ref Df), some (.ref wp), v12, v13, v14, v15, u16, u17, u18, u19, u20, u21] ∧ But [b] H13 H' ∧ Box H' b) ⟨u6, u12', u13, u14, u15, rfl, But.refl, bx13⟩ ?_ ?_
        · rintro i σ H14 hi ⟨v6, v12, v13, v14, v15, rfl, b14, bx14⟩
          have ei : (0 + ((i : Nat) : Int)) = (i : Nat) := by omega
          have hw14 : SqT K H14 wp (W.map V.int) := Tk.but b14 bx13.noT _ _ hwp
          refine ⟨_, rfl, _, rfl, _, rfl, wp, _, rfl, hw14, fun p1 H15 s15 h15 => ?_⟩
          rw [ei, cut_nat, vI_take] at h15
          refine ⟨_, rfl, _, rfl, _, rfl, wp, _, rfl, Tk.same s15 _ _ hw14, fun p2 H16 s16 h16 => ?_⟩
          rw [ei, cut_nat, vI_take] at h16
          have s1416 := s15.trans s16
          obtain ⟨x, hx⟩ : ∃ x, W[i]? = some x := ⟨W[i], by simp [hi]⟩
          have bx16 := bx14.same s1416
          refine ⟨_, rfl, _, rfl, wp, _, _, .int x, rfl, rfl, Tk.same s1416 _ _ hw14, by rw [ei]; exact at_nat (by rw [List.getElem?_map, hx]; rfl), _, _, rfl, rfl, _, rfl, b, 255, rfl, bx16, by decide, by decide, fun y H17 y0 y1 b17 bx17 nn17 => ⟨_, _, rfl, rfl, _, _, rfl, rfl, (by show (0 : Int) < 256; decide), (by show 1 ≤ sizeLine; decide), fun t18 ht18 => ?_⟩⟩
          have tk17 : Tk K H16 H17 := Tk.but b17 bx16.noT
          have hz : 0 ≤ (x + 1 + y) % 256 ∧ (x + 1 + y) % 256 < 256 := ⟨Int.emod_nonneg _ (by decide), Int.emod_lt_of_pos _ (by decide)⟩
          have s18 : Same H17 (upd H17 t18 (.tup [.int ((x + 1 + y) % 256)])) := same_new ht18
          have e18 : upd H17 t18 (.tup [.int ((x + 1 + y) % 256)]) t18 = some (.tup [.int ((x + 1 + y) % 256)]) := upd_same
          generalize upd H17 t18 (.tup [.int ((x + 1 + y) % 256)]) = H18 at s18 e18 ⊢
          generalize (x + 1 + y) % 256 = z at hz e18
          refine ⟨p2, t18, _, _, rfl, rfl, (tk17.trans (Tk.same s18)) _ _ h16, SqT.of e18, by rw [List.length_map, List.length_take, sizeLine_eq]; show _ + 1 ≤ _; omega, fun p19 H19 s19 h19 => ?_⟩
          have tk1619 : Tk K H16 H19 := tk17.trans (Tk.same (s18.trans s19))
          refine ⟨_, rfl, _, rfl, _, _, rfl, rfl, _, rfl, wp, _, rfl, ((Tk.same s1416).trans tk1619) _ _ hw14, fun p20 H20 s20 h20 => ?_⟩
          have en1 : ((0 + ((i : Nat) : Int)) + 1).toNat = i + 1 := by omega
          rw [cut_from (by omega) (by rw [hWm]; omega), vI_drop, en1] at h20
          refine ⟨p19, p20, _, _, rfl, rfl, Tk.same s20 _ _ h19, h20, by rw [List.length_append, List.length_map, List.length_map, List.length_take, List.length_drop, sizeLine_eq]; show _ + 1 + _ ≤ _; omega, fun p21 H21 s21 h21 => ⟨(by show 2 ≤ sizeLine; decide), fun t22 ht22 => ?_⟩⟩
          have s22 : Same H21 (upd H21 t22 (.tup [.ref p1, .ref p21])) := same_new ht22
          have e22 : upd H21 t22 (.tup [.ref p1, .ref p21]) t22 = some (.tup [.ref p1, .ref p21]) := upd_same
          generalize upd H21 t22 (.tup [.ref p1, .ref p21]) = H22 at s22 e22 ⊢
          have s1722 := s18.trans (s19.trans (s20.trans (s21.trans s22)))
          have b1422 : But [b] H14 H22 := (But.of s1416).trans (b17.trans (But.of s1722))
          have bx22 := bx17.same s1722
          have h1522 : SqT K H22 p1 ((W.take i).map V.int) := ((Tk.same s16).trans (tk17.trans (Tk.same s1722))) _ _ h15
          have h2122 : SqT K H22 p21 ((W.take i ++ [z] ++ W.drop (i + 1)).map V.int) := Tk.same s22 _ _ (by rw [List.map_append, List.map_append]; exact h21)
          have hsome : ∀ {j : Nat} {xx : V}, ([V.ref p1, V.ref p21] : List V)[j]? = some xx → ∃ gx l, xx = .ref gx ∧ SqT K H22 gx (l.map V.int) ∧ Oct l ∧ l.length ≤ 1000 := fun {j xx} hxx => by
            match j, hxx with
            | 0, hxx => exact ⟨p1, _, (Option.some.inj hxx).symm, h1522, hWoct.take i, by rw [List.length_take]; omega⟩
            | 1, hxx => exact ⟨p21, _, (Option.some.inj hxx).symm, h2122, hWoct.mid hz, by rw [List.length_append, List.length_append, List.length_take, List.length_drop]; simp only [List.length_cons, List.length_nil]; omega⟩
            | j + 2, hxx => cases hxx
          refine ⟨t22, rfl, ⟨_, SqT.of e22⟩, for_tup (xs := [.ref p1, .ref p21]) (fun j σ H' => ∃ v12 v13 v14 v15 : Option V, σ = [some (.ref sc), some (.int (0 + (k : Nat))), some (.ref b), u3, u4, u5, some (.int (0 + (i : Nat))), u7, u8, some (.ref Dp), some (.ref Df), some (.ref wp), v12, v13, v14, v15, u16, u17, u18, u19, u20, u21] ∧ Same H22 H') ⟨v12, v13, v14, v15, rfl, Same.refl _⟩ (fun j σ H' hj ⟨_, _, _, _, _, s23⟩ => SqT.of (s23 _ _ e22)) ?_ ?_⟩
          · rintro j xx σ H23 hxx ⟨v12, v13, v14, v15, rfl, s23⟩
            obtain ⟨gx, l, rfl, hgx, hlo, hll⟩ := hsome hxx
            refine ⟨_, rfl, gx, l, rfl, Tk.same s23 _ _ hgx, hlo, by omega, fun p24 lf us uu kk H24 s24 e24 el24 iu24 hu24 => ?_⟩
            refine ⟨p24, _, rfl, SqT.of e24, rfl, _, _, rfl, _, _, rfl, _, _, rfl, rfl, ?_⟩
            refine ⟨_, rfl, gx, l, rfl, Tk.same (s23.trans s24) _ _ hgx, hlo, by omega, fun fv H25 s25 hfv => ?_⟩
            refine ⟨_, rfl, .inl ⟨lf, us, rfl, SqL.of (s25 _ _ el24), fun t26 ht26 => ?_⟩⟩
            have s26 : Same H25 (upd H25 t26 (.tup us)) := same_new ht26
            have e26 : upd H25 t26 (.tup us) t26 = some (.tup us) := upd_same
            generalize upd H25 t26 (.tup us) = H26 at s26 e26 ⊢
            have s2426 := s25.trans s26
            have iu26 := iu24.mono (Tk.same s2426)
            have hul := iu24.len
            rw [List.length_map] at hul
            have hdd : dp (frDD (frAll l)) < 220 := by have := dp_frDD (frAll l); omega
            refine ⟨_, rfl, rfl, _, rfl, ?_⟩
            generalize hfa : frAll l = fa at hfv iu26 hu24 hul hdd
            obtain ⟨rows, tl⟩ := fa
            cases tl with
            | none =>
              cases hu24
              refine iteT ⟨(by show 2 ≤ sizeLine; decide), fun t27 ht27 => ?_⟩
              have s27 : Same H26 (upd H26 t27 (.tup [.ref t26, .non])) := same_new ht27
              have e27 : upd H26 t27 (.tup [.ref t26, .non]) t27 = some (.tup [.ref t26, .non]) := upd_same
              generalize upd H26 t27 (.tup [.ref t26, .non]) = H27 at s27 e27 ⊢
              refine ⟨fv, .ref t27, frDD (rows, none), rfl, hfv.mono (Tk.same (s26.trans s27)), .tup (SqT.of e27) (.cons (.tup (SqT.of (s27 _ _ e26)) (iu26.mono (Tk.same s27))) (.cons .non .nil)), hdd, fun H28 s28 => ⟨_, rfl, iteF ?_⟩⟩
              exact ⟨_, _, _, _, rfl, s23.trans (s24.trans (s2426.trans (s27.trans s28)))⟩
            | some bb =>
              have hus : uu = .str (tlS bb) := by
                have hh : Im K H24 uu (.str (tlS bb)) := hu24
                cases hh
                rfl
              subst hus
              refine iteF ?_
              refine ⟨_, rfl, _, rfl, lf, us, rfl, .inl (SqL.of (s2426 _ _ el24)), (by show 2 ≤ sizeLine; decide), fun t27 ht27 => ?_⟩
              have s27 : Same H26 (upd H26 t27 (.tup [.str (tlS bb), .int (us.length : Nat)])) := same_new ht27
              have e27 : upd H26 t27 (.tup [.str (tlS bb), .int (us.length : Nat)]) t27 = some (.tup [.str (tlS bb), .int (rows.length : Nat)]) := by rw [upd_same, hul]
              generalize upd H26 t27 (.tup [.str (tlS bb), .int (us.length : Nat)]) = H27 at s27 e27 ⊢
              refine ⟨(by show 2 ≤ sizeLine; decide), fun t28 ht28 => ?_⟩
              have s28 : Same H27 (upd H27 t28 (.tup [.ref t26, .ref t27])) := same_new ht28
              have e28 : upd H27 t28 (.tup [.ref t26, .ref t27]) t28 = some (.tup [.ref t26, .ref t27]) := upd_same
              generalize upd H27 t28 (.tup [.ref t26, .ref t27]) = H28 at s28 e28 ⊢
              refine ⟨fv, .ref t28, frDD (rows, some bb), rfl, hfv.mono (Tk.same (s26.trans (s27.trans s28))), .tup (SqT.of e28) (.cons (.tup (SqT.of (s28 _ _ (s27 _ _ e26))) (iu26.mono (Tk.same (s27.trans s28)))) (.cons (.tup (SqT.of (s28 _ _ e27)) (.cons (.str _) (.cons (.int _) .nil))) .nil)), hdd, fun H29 s29 => ⟨_, rfl, iteF ?_⟩⟩
              exact ⟨_, _, _, _, rfl, s23.trans (s24.trans (s2426.trans (s27.trans (s28.trans s29))))⟩
          · rintro σ H23 ⟨v12, v13, v14, v15, rfl, s23⟩
            exact ⟨_, _, _, _, _, rfl, b14.trans (b1422.trans (But.of s23)), bx22.same s23⟩
        rintro σ H14 ⟨v6, v12, v13, v14, v15, rfl, b14, bx14⟩
        have b314 : But [b] H3 H14 := b313.trans b14
        have s014 : Same H H14 := sm b314
        -- medium, files
        refine fun a dx ha hdx hne => ⟨a, dx, rfl, upd_same, fun H15 dr ds df b15 m15 fr fs ff => ⟨rfl, ?_⟩⟩
        have s0 : Same H14 (upd (upd H14 dx (.own a)) a (.ins T.CMedium dx [])) := Same.put (same_new hdx) ha
        have s15 : Same H14 H15 := Same.but s0 b15 (by simpa using ha)
        have fr14 := s0.free fr
        have fs14 := s0.free fs
        have ff14 := s0.free ff
        refine fun fl hfl => ?_
        have s16 : Same H15 (upd H15 fl (.dK [])) := same_new hfl
        have e16 : upd H15 fl (.dK []) fl = some (.dK []) := upd_same
        generalize upd H15 fl (.dK []) = H16 at s16 e16 ⊢
        refine ⟨Nat.zero_le _, fun x1 hx1 => ?_⟩
        have z1 : Same H16 (upd H16 x1 (.tup [])) := same_new hx1
        have y1 : upd H16 x1 (.tup []) x1 = some (.tup []) := upd_same
        generalize upd H16 x1 (.tup []) = G1 at z1 y1 ⊢
        refine ⟨(by show 3 ≤ sizeLine; decide), fun t1 ht1 => ?_⟩
        have z2 : Same G1 (upd G1 t1 (.tup [.ref x1, .int 0, .non])) := same_new ht1
        have y2 : upd G1 t1 (.tup [.ref x1, .int 0, .non]) t1 = some (.tup [.ref x1, .int 0, .non]) := upd_same
        generalize upd G1 t1 (.tup [.ref x1, .int 0, .non]) = G2 at z2 y2 ⊢
        refine ⟨Nat.zero_le _, fun x2 hx2 => ?_⟩
        have z3 : Same G2 (upd G2 x2 (.tup [])) := same_new hx2
        have y3 : upd G2 x2 (.tup []) x2 = some (.tup []) := upd_same
        generalize upd G2 x2 (.tup []) = G3 at z3 y3 ⊢
        refine ⟨(by show 3 ≤ sizeLine; decide), fun t2 ht2 => ?_⟩
        have z4 : Same G3 (upd G3 t2 (.tup [.ref x2, .int 0, .non])) := same_new ht2
        have y4 : upd G3 t2 (.tup [.ref x2, .int 0, .non]) t2 = some (.tup [.ref x2, .int 0, .non]) := upd_same
        generalize upd G3 t2 (.tup [.ref x2, .int 0, .non]) = G4 at z4 y4 ⊢
        refine ⟨Nat.zero_le _, fun x3 hx3 => ?_⟩
        have z5 : Same G4 (upd G4 x3 (.tup [])) := same_new hx3
        have y5 : upd G4 x3 (.tup []) x3 = some (.tup []) := upd_same
        generalize upd G4 x3 (.tup []) = G5 at z5 y5 ⊢
        refine ⟨(by show 3 ≤ sizeLine; decide), fun t3 ht3 => ?_⟩
        have z6 : Same G5 (upd G5 t3 (.tup [.ref x3, .int 0, .non])) := same_new ht3
        have y6 : upd G5 t3 (.tup [.ref x3, .int 0, .non]) t3 = some (.tup [.ref x3, .int 0, .non]) := upd_same
        generalize upd G5 t3 (.tup [.ref x3, .int 0, .non]) = G6 at z6 y6 ⊢
        have z16 : Same H16 G6 := z1.trans (z2.trans (z3.trans (z4.trans (z5.trans z6))))
        have e6f := z16 _ _ e16
        refine ⟨e6f, [(.inr "life", .ref t1), (.inr "left", .ref t2), (.inr "right", .ref t3)], rfl, (by show 3 ≤ 15; decide), ?_⟩
        have b7 : But [fl] G6 (upd G6 fl (.dK [(.inr "life", .ref t1), (.inr "left", .ref t2), (.inr "right", .ref t3)])) := But.upd (by simp)
        have e7 : upd G6 fl (.dK [(.inr "life", .ref t1), (.inr "left", .ref t2), (.inr "right", .ref t3)]) fl = some (.dK (kvF fun i => if i = 0 then .ref t1 else if i = 1 then .ref t2 else .ref t3)) := upd_same
        have emk : mergeK [] ([(.inr "life", .ref t1), (.inr "left", .ref t2), (.inr "right", .ref t3)] : List (Key × V)) = [(.inr "life", .ref t1), (.inr "left", .ref t2), (.inr "right", .ref t3)] := rfl
        rw [emk]
        have nt7 : NoT G6 [fl] := noT_dK e6f noT_nil
        generalize upd G6 fl (.dK [(.inr "life", .ref t1), (.inr "left", .ref t2), (.inr "right", .ref t3)]) = G7 at b7 e7 ⊢
        have tk7 : Tk K G6 G7 := Tk.but b7 nt7
        have nfr : fl ≠ dr := fun z => by
          obtain ⟨v, e, _⟩ := m15.hr
          rw [z, e] at hfl
          cases hfl
        have nfs : fl ≠ ds := fun z => by
          have e := m15.hs
          rw [z, e] at hfl
          cases hfl
        have nff : fl ≠ df := fun z => by
          obtain ⟨v, e, _⟩ := m15.hf
          rw [z, e] at hfl
          cases hfl
        have nfa : a ≠ fl := fun z => by
          obtain ⟨dx', e⟩ := m15.at_
          rw [← z, e] at hfl
          cases hfl
        have m6 := m15.same (s16.trans z16)
        have m7 := m6.keep b7 tk7 (by simpa using ⟨nfa, Ne.symm nfr, Ne.symm nfs, Ne.symm nff⟩)
        have q1 : SqT K G7 x1 [] := tk7 _ _ (SqT.of ((z2.trans (z3.trans (z4.trans (z5.trans z6)))) _ _ y1))
        have q2 : SqT K G7 t1 [.ref x1, .int 0, .non] := tk7 _ _ (SqT.of ((z3.trans (z4.trans (z5.trans z6))) _ _ y2))
        have q3 : SqT K G7 x2 [] := tk7 _ _ (SqT.of ((z4.trans (z5.trans z6)) _ _ y3))
        have q4 : SqT K G7 t2 [.ref x2, .int 0, .non] := tk7 _ _ (SqT.of ((z5.trans z6) _ _ y4))
        have q5' : SqT K G7 x3 [] := tk7 _ _ (SqT.of (z6 _ _ y5))
        have q6 : SqT K G7 t3 [.ref x3, .int 0, .non] := tk7 _ _ (SqT.of y6)
        have f7 : Fil K G7 fl Md.new := by
          refine ⟨_, e7, fun i => ?_⟩
          show Im K G7 (if i = 0 then .ref t1 else if i = 1 then .ref t2 else .ref t3) (.tup [tI [], .int (0 : Nat), .non])
          by_cases c0 : i = 0
          · rw [if_pos c0]
            exact .tup q2 (.cons (Im.tI (ns := []) q1) (.cons (.int _) (.cons .non .nil)))
          · rw [if_neg c0]
            by_cases c1 : i = 1
            · rw [if_pos c1]
              exact .tup q4 (.cons (Im.tI (ns := []) q3) (.cons (.int _) (.cons .non .nil)))
            · rw [if_neg c1]
              exact .tup q6 (.cons (Im.tI (ns := []) q5') (.cons (.int _) (.cons .non .nil)))
        have nbfl : fl ≠ b := box_ne (bx14.same s15) hfl
        have bx7 : Box G7 b := by
          obtain ⟨g1, t1', e1⟩ := bx14
          exact ⟨g1, t1', b7 _ _ (by simpa using Ne.symm nbfl) ((s15.trans (s16.trans z16)) _ _ e1)⟩
        have hfl14 : H14 fl = none := s15.free hfl
        have s147 : Same H14 G7 := Same.but (s15.trans (s16.trans z16)) b7 (by simpa using hfl14)
        refine ⟨(by show 2 ≤ sizeLine; decide), fun t8 ht8 => ?_⟩
        have s8 : Same G7 (upd G7 t8 (.tup [.ref a, .ref fl])) := same_new ht8
        have e8 : upd G7 t8 (.tup [.ref a, .ref fl]) t8 = some (.tup [.ref a, .ref fl]) := upd_same
        generalize upd G7 t8 (.tup [.ref a, .ref fl]) = G8 at s8 e8 ⊢
        refine ⟨t8, _, rfl, SqT.of e8, rfl, _, _, rfl, _, _, rfl, rfl, ?_⟩
        have m8 := m7.same s8
        have f8 : Fil K G8 fl Md.new := f7.keep (S := []) (But.of s8) (Tk.same s8) (by simp)
        have s148 : Same H14 G8 := s147.trans s8
        have s08 : Same H G8 := s014.trans s148
        have nwA : ∀ c ∈ [b, dr, ds, df, fl], H c = none := fun c hc => by
          rcases (by simpa using hc : c = b ∨ c = dr ∨ c = ds ∨ c = df ∨ c = fl) with rfl | rfl | rfl | rfl | rfl
          · exact hbH
          · exact s014.free fr14
          · exact s014.free fs14
          · exact s014.free ff14
          · exact s014.free hfl14
        refine ⟨36, rfl, by decide, by decide, ?_⟩
        refine for_range (fun j σ H' => ∃ (M : Md) (v3 v18 : Option V), σ = [some (.ref sc), some (.int (0 + (k : Nat))), some (.ref b), v3, u4, u5, v6, u7, u8, some (.ref Dp), some (.ref Df), some (.ref wp), v12, v13, v14, v15, some (.ref a), some (.ref fl), v18, u19, u20, u21] ∧ But [b, dr, ds, df, fl] G8 H' ∧ Box H' b ∧ Med K T.CMedium a dr ds df H' M ∧ Fil K H' fl M ∧ MOk M (3 * j)) ⟨Md.new, u3, u18, rfl, But.refl, bx7.same s8, m8, f8, mok_new⟩ ?_ ?_
        · rintro j σ H20 hj ⟨M0, v3, v18, rfl, b20, bx20, m20, f20, mo20⟩
          refine ⟨_, rfl, _, rfl, _, rfl, b, a, dr, ds, df, fl, M0, 3 * j, rfl, bx20, m20, f20, nfr, nfs, nff, mo20, by omega, fun M H21 b21 bx21 m21 f21 mo21 => ⟨_, rfl, iteF ?_⟩⟩
          have hB : 3 * j + 3 ≤ 200 := by omega
          -- due
          refine ⟨(by show 3 ≤ sizeLine; decide), fun t22 ht22 => ?_⟩
          have s22 : Same H21 (upd H21 t22 (.tup [.str "life", .str "left", .str "right"])) := same_new ht22
          have e22 : upd H21 t22 (.tup [.str "life", .str "left", .str "right"]) t22 = some (.tup [.str "life", .str "left", .str "right"]) := upd_same
          generalize upd H21 t22 (.tup [.str "life", .str "left", .str "right"]) = H22 at s22 e22 ⊢
          have f22 : Fil K H22 fl M := f21.keep (S := []) (But.of s22) (Tk.same s22) (by simp)
          obtain ⟨vf, ef, hvf⟩ := f22
          refine ⟨t22, rfl, ⟨_, SqT.of e22⟩, fun Dd hDd => lc_tup (xs := [.str "life", .str "left", .str "right"]) (fun i H' => ∃ ws, H' Dd = some (.lst ws) ∧ ImL K H' ws (((List.range i).map fun x => chs M x).map tI) ∧ ws.length = i ∧ Same H22 H') ⟨[], upd_same, .nil, rfl, same_new hDd⟩ (fun i H' hi ⟨ws, e23, i23, l23, s23⟩ => SqT.of (s23 _ _ e22)) ?_ ?_⟩
          · rintro i x H23 hx ⟨ws, e23, i23, l23, s23⟩
            obtain ⟨hi3, rfl⟩ := files_get hx
            have ef23 := s23 _ _ ef
            obtain ⟨rw', gR, uF, erow, hrow, hgR, huF⟩ := Fil.row ((hvf i).mono (Tk.same s23))
            have hml := mo21.len i
            have hms := mo21.sf i
            have ech : chs M i = (if (M.former i).isSome then [-1] else []) ++ ((List.range ((M.rows i).length + 1 - M.safe i)).map fun j => ((M.safe i : Nat) : Int) + ((j : Nat) : Int)) := rfl
            have hcl := chs_len (i := i) mo21
            have fin : ∀ (hd : List Int) (H24 : Hp), Same H23 H24 → ∀ t4, H24 t4 = some (.tup (hd.map V.int)) → chs M i = hd ++ ((List.range ((M.rows i).length + 1 - M.safe i)).map fun j => ((M.safe i : Nat) : Int) + ((j : Nat) : Int)) →
                tTupRg (tRg2 (tOp (rIxT K) (tDGet (tVar 17) (tVar 21)) (tC (.int 1))) (tOp (rI0 fun i j => .int (i + j)) (tCB (rLenK K) (tCons (tOp (rIxT K) (tDGet (tVar 17) (tVar 21)) (tC (.int 0))) tNil)) (tC (.int 1)))) [some (.ref sc), some (.int (0 + (k : Nat))), some (.ref b), some (.int (0 + (j : Nat))), u4, u5, v6, u7, u8, some (.ref Dp), some (.ref Df), some (.ref wp), v12, v13, v14, v15, some (.ref a), some (.ref fl), v18, u19, u20, some (.str (nm i))] H24
                  fun y H25 => rCatU K (.ref t4) y H25 fun p H26 => ∃ acc, H26 Dd = some (.lst acc) ∧ acc.length < sizeLine ∧ ∃ ws, upd H26 Dd (.lst (acc ++ [p])) Dd = some (.lst ws) ∧ ImL K (upd H26 Dd (.lst (acc ++ [p]))) ws (((List.range (i + 1)).map fun x => chs M x).map tI) ∧ ws.length = i + 1 ∧ Same H22 (upd H26 Dd (.lst (acc ++ [p]))) := fun hd H24 s24 t4 e4 hch => by
              have hrow24 := Tk.same s24 _ _ hrow
              have hgR24 := Tk.same s24 _ _ hgR
              have ef24 := s24 _ _ ef23
              refine ⟨_, rfl, _, rfl, fl, _, rfl, dget ef24 hi3, rw', _, _, _, erow, rfl, hrow24, at_1 _ _ _, _, rfl, _, rfl, fl, _, rfl, dget ef24 hi3, rw', _, _, _, erow, rfl, hrow24, at_0 _ _, gR, _, rfl, .inr hgR24, _, _, rfl, rfl, _, _, rfl, rfl, ?_, fun q5 hq5 => ?_⟩
              · rw [List.length_map]
                exact ⟨by omega, by omega, by omega, by omega, by omega⟩
              rw [List.length_map, rg_chs]
              have s25 : Same H24 (upd H24 q5 (.tup (((List.range ((M.rows i).length + 1 - M.safe i)).map fun j => ((M.safe i : Nat) : Int) + ((j : Nat) : Int)).map V.int))) := same_new hq5
              have e25 : upd H24 q5 (.tup (((List.range ((M.rows i).length + 1 - M.safe i)).map fun j => ((M.safe i : Nat) : Int) + ((j : Nat) : Int)).map V.int)) q5 = some (.tup (((List.range ((M.rows i).length + 1 - M.safe i)).map fun j => ((M.safe i : Nat) : Int) + ((j : Nat) : Int)).map V.int)) := upd_same
              rw [hch, List.length_append] at hcl
              generalize ((List.range ((M.rows i).length + 1 - M.safe i)).map fun j => ((M.safe i : Nat) : Int) + ((j : Nat) : Int)) = rg at s25 e25 hch hcl ⊢
              generalize upd H24 q5 (.tup (rg.map V.int)) = H25 at s25 e25 ⊢
              refine ⟨t4, q5, _, _, rfl, rfl, SqT.of (s25 _ _ e4), SqT.of e25, by rw [List.length_map, List.length_map, sizeLine_eq]; omega, fun p H26 s26 h26 => ?_⟩
              have s2326 := s24.trans (s25.trans s26)
              have e26 := s2326 _ _ e23
              have tk26 : Tk K H26 (upd H26 Dd (.lst (ws ++ [.ref p]))) := Tk.but (But.upd (S := [Dd]) (by simp)) (noT_lst e26 noT_nil)
              refine ⟨ws, e26, by rw [l23, sizeLine_eq]; omega, ws ++ [.ref p], upd_same, ?_, by rw [List.length_append, l23]; rfl, Same.put (s23.trans s2326) hDd⟩
              rw [List.range_succ, List.map_append, List.map_append]
              refine (i23.mono ((Tk.same s2326).trans tk26)).app (.cons (Im.tI (tk26 _ _ ?_)) .nil)
              show SqT K _ p ((chs M i).map V.int)
              rw [hch, List.map_append]
              exact h26
            refine ⟨rfl, _, rfl, _, rfl, fl, _, rfl, dget ef23 hi3, rw', _, _, _, erow, rfl, hrow, at_2 _ _ _ _, rfl, _, rfl, ?_⟩
            cases hfm : M.former i with
            | none =>
              rw [hfm] at huF ech
              cases huF
              refine iteF ⟨Nat.zero_le _, fun t4 ht4 => ?_⟩
              exact fin [] _ (same_new ht4) t4 upd_same ech
            | some l =>
              rw [hfm] at huF ech
              obtain ⟨gl, rfl, hgl⟩ := Im.to_tI (ns := l) huF
              refine iteT ⟨_, _, rfl, rfl, (by show 1 ≤ sizeLine; decide), fun t4 ht4 => ?_⟩
              exact fin [-1] _ (same_new ht4) t4 upd_same ech
          rintro H23 ⟨ws, e23, i23, l23, s23⟩
          refine .inl ⟨Dd, ws, rfl, SqL.of e23, fun q24 hq24 => ?_⟩
          have s24 : Same H23 (upd H23 q24 (.tup ws)) := same_new hq24
          have e24 : upd H23 q24 (.tup ws) q24 = some (.tup ws) := upd_same
          generalize upd H23 q24 (.tup ws) = H24 at s24 e24 ⊢
          have s2124 : Same H21 H24 := s22.trans (s23.trans s24)
          have er3 : ((List.range ([V.str "life", V.str "left", V.str "right"] : List V).length).map fun x => chs M x).map tI = [tI (chs M 0), tI (chs M 1), tI (chs M 2)] := rfl
          rw [er3] at i23
          have hdue : Im K H24 (.ref q24) (choicesD M) := .tup (SqT.of e24) (i23.mono (Tk.same s24))
          -- choices, read
          have m24 := m21.same s2124
          obtain ⟨dx24, ea24⟩ := m24.at_
          refine ⟨_, rfl, a, dx24, _, rfl, ea24, rfl, a, dr, ds, df, M, 3 * j + 3, rfl, m24, mo21, by omega, fun vc H25 s25 hc => ?_⟩
          refine ⟨(by show 3 ≤ sizeLine; decide), fun t26 ht26 => ?_⟩
          have s26 : Same H25 (upd H25 t26 (.tup [.str "life", .str "left", .str "right"])) := same_new ht26
          have e26 : upd H25 t26 (.tup [.str "life", .str "left", .str "right"]) t26 = some (.tup [.str "life", .str "left", .str "right"]) := upd_same
          generalize upd H25 t26 (.tup [.str "life", .str "left", .str "right"]) = H26 at s26 e26 ⊢
          have m26 := m24.same (s25.trans s26)
          refine ⟨t26, rfl, ⟨_, SqT.of e26⟩, fun D2 hD2 => lc_tup (xs := [.str "life", .str "left", .str "right"]) (fun i H' => ∃ ws, H' D2 = some (.lst ws) ∧ ImL K H' ws (((List.range i).map fun x => M.rows x).map tI) ∧ ws.length = i ∧ Same H26 H') ⟨[], upd_same, .nil, rfl, same_new hD2⟩ (fun i H' hi ⟨ws, e27, i27, l27, s27⟩ => SqT.of (s27 _ _ e26)) ?_ ?_⟩
          · rintro i x H27 hx ⟨ws, e27, i27, l27, s27⟩
            obtain ⟨hi3, rfl⟩ := files_get hx
            have m27 := m26.same s27
            obtain ⟨dx27, ea27⟩ := m27.at_
            refine ⟨rfl, _, rfl, a, dx27, _, rfl, ea27, rfl, _, rfl, a, dr, ds, df, M, i, rfl, hi3, m27, fun v hv => ?_⟩
            have tk28 : Tk K H27 (upd H27 D2 (.lst (ws ++ [v]))) := Tk.but (But.upd (S := [D2]) (by simp)) (noT_lst e27 noT_nil)
            refine ⟨ws, e27, by rw [l27, sizeLine_eq]; omega, ws ++ [v], upd_same, ?_, by rw [List.length_append, l27]; rfl, Same.put s27 hD2⟩
            rw [List.range_succ, List.map_append, List.map_append]
            exact (i27.mono tk28).app (.cons (hv.mono tk28) .nil)
          rintro H27 ⟨rs, e27, i27, l27, s27⟩
          refine .inl ⟨D2, rs, rfl, SqL.of e27, fun q28 hq28 => ?_⟩
          have s28 : Same H27 (upd H27 q28 (.tup rs)) := same_new hq28
          have e28 : upd H27 q28 (.tup rs) q28 = some (.tup rs) := upd_same
          generalize upd H27 q28 (.tup rs) = H28 at s28 e28 ⊢
          refine ⟨(by show 2 ≤ sizeLine; decide), fun t29 ht29 => ?_⟩
          have s29 : Same H28 (upd H28 t29 (.tup [vc, .ref q28])) := same_new ht29
          have e29 : upd H28 t29 (.tup [vc, .ref q28]) t29 = some (.tup [vc, .ref q28]) := upd_same
          generalize upd H28 t29 (.tup [vc, .ref q28]) = H29 at s29 e29 ⊢
          have s2529 := s26.trans (s27.trans (s28.trans s29))
          have im1 : Im K H29 (.ref t29) (.tup [choicesD M, .tup (((List.range 3).map fun x => M.rows x).map tI)]) :=
            .tup (SqT.of e29) (.cons (hc.mono (Tk.same s2529)) (.cons (.tup (SqT.of (s29 _ _ e28)) (i27.mono (Tk.same (s28.trans s29)))) .nil))
          have s2429 : Same H24 H29 := s25.trans s2529
          have s2129 : Same H21 H29 := s2124.trans s2429
          -- what the law says
          refine ⟨_, rfl, (by show 3 ≤ sizeLine; decide), fun t30 ht30 => ?_⟩
          have s30 : Same H29 (upd H29 t30 (.tup [.str "life", .str "left", .str "right"])) := same_new ht30
          have e30 : upd H29 t30 (.tup [.str "life", .str "left", .str "right"]) t30 = some (.tup [.str "life", .str "left", .str "right"]) := upd_same
          generalize upd H29 t30 (.tup [.str "life", .str "left", .str "right"]) = H30 at s30 e30 ⊢
          have f30 : Fil K H30 fl M := f21.keep (S := []) (But.of (s2129.trans s30)) (Tk.same (s2129.trans s30)) (by simp)
          obtain ⟨vg, eg, hvg⟩ := f30
          refine ⟨t30, rfl, ⟨_, SqT.of e30⟩, fun D3 hD3 => lc_tup (xs := [.str "life", .str "left", .str "right"]) (fun i H' => ∃ ws, H' D3 = some (.lst ws) ∧ ImL K H' ws (((List.range i).map fun x => M.rows x).map tI) ∧ ws.length = i ∧ Same H30 H') ⟨[], upd_same, .nil, rfl, same_new hD3⟩ (fun i H' hi ⟨ws, e31, i31, l31, s31⟩ => SqT.of (s31 _ _ e30)) ?_ ?_⟩
          · rintro i x H31 hx ⟨ws, e31, i31, l31, s31⟩
            obtain ⟨hi3, rfl⟩ := files_get hx
            obtain ⟨rw', gR, uF, erow, hrow, hgR, huF⟩ := Fil.row ((hvg i).mono (Tk.same s31))
            refine ⟨rfl, _, rfl, _, rfl, fl, _, rfl, dget (s31 _ _ eg) hi3, rw', _, _, _, erow, rfl, hrow, at_0 _ _, ?_⟩
            have tk32 : Tk K H31 (upd H31 D3 (.lst (ws ++ [.ref gR]))) := Tk.but (But.upd (S := [D3]) (by simp)) (noT_lst e31 noT_nil)
            refine ⟨ws, e31, by rw [l31, sizeLine_eq]; omega, ws ++ [.ref gR], upd_same, ?_, by rw [List.length_append, l31]; rfl, Same.put s31 hD3⟩
            rw [List.range_succ, List.map_append, List.map_append]
            exact (i31.mono tk32).app (.cons (Im.tI (tk32 _ _ hgR)) .nil)
          rintro H31 ⟨ss, e31, i31, l31, s31⟩
          refine .inl ⟨D3, ss, rfl, SqL.of e31, fun q32 hq32 => ?_⟩
          have s32 : Same H31 (upd H31 q32 (.tup ss)) := same_new hq32
          have e32 : upd H31 q32 (.tup ss) q32 = some (.tup ss) := upd_same
          generalize upd H31 q32 (.tup ss) = H32 at s32 e32 ⊢
          refine ⟨(by show 2 ≤ sizeLine; decide), fun t33 ht33 => ?_⟩
          have s33 : Same H32 (upd H32 t33 (.tup [.ref q24, .ref q32])) := same_new ht33
          have e33 : upd H32 t33 (.tup [.ref q24, .ref q32]) t33 = some (.tup [.ref q24, .ref q32]) := upd_same
          generalize upd H32 t33 (.tup [.ref q24, .ref q32]) = H33 at s33 e33 ⊢
          have s2933 : Same H29 H33 := s30.trans (s31.trans (s32.trans s33))
          have im2 : Im K H33 (.ref t33) (.tup [choicesD M, .tup (((List.range 3).map fun x => M.rows x).map tI)]) :=
            .tup (SqT.of e33) (.cons (hdue.mono (Tk.same (s2429.trans s2933))) (.cons (.tup (SqT.of (s33 _ _ e32)) (i31.mono (Tk.same (s32.trans s33)))) .nil))
          have hdp : dp (.tup [choicesD M, .tup (((List.range 3).map fun x => M.rows x).map tI)]) < 220 := by
            have h1 := dpL_tI [chs M 0, chs M 1, chs M 2]
            have h2 := dpL_tI ((List.range 3).map fun x => M.rows x)
            show 1 + max (1 + dpL ([chs M 0, chs M 1, chs M 2].map tI)) (max (1 + dpL (((List.range 3).map fun x => M.rows x).map tI)) 0) < 220
            omega
          refine ⟨.ref t29, .ref t33, _, rfl, im1.mono (Tk.same s2933), im2, hdp, fun H34 s34 => ⟨_, rfl, iteF ?_⟩⟩
          have s2134 : Same H21 H34 := s2129.trans (s2933.trans s34)
          have e3j : 3 * (j + 1) = 3 * j + 3 := by omega
          refine ⟨M, _, _, rfl, b20.trans (b21.trans (But.of s2134)), bx21.same s2134, m21.same s2134, f21.keep (S := []) (But.of s2134) (Tk.same s2134) (by simp), ?_⟩
          rw [e3j]
          exact mo21
        · rintro σ H20 ⟨M0, v3, v18, rfl, b20, bx20, m20, f20, mo20⟩
          exact ⟨_, _, _, _, _, _, _, _, _, _, _, _, _, _, _, _, _, _, _, _, _, rfl, Same.but s08 b20 nwA⟩
    · rintro σ H2 ⟨u1, u2, u3, u4, u5, u6, u7, u8, u9, u10, u11, u12, u13, u14, u15, u16, u17, u18, u19, u20, u21, rfl, s2⟩
      exact q H2
end
end K77
end

section
set_option Elab.async false
set_option linter.all false
set_option maxRecDepth 100000
set_option maxHeartbeats 8000000
namespace K77
open PySem L2
/-- all facts together -/
theorem law_holds {P : Program} {w : World} {K : PySem.W.Frag} {mg : Str → Option Value} {base : Heap} (T : Tx P K mg) : FnOk P w K mg base CX0 222 T.law.f T.law.fd ["script"] (spLaw K) := by
  have g_is := ok_is_int (P := P) (w := w) (base := base) T
  have g_cn := ok_counted (P := P) (w := w) (base := base) T
  have g_one := ok_one (P := P) (w := w) (base := base) T
  have g_num := ok_number T g_one
  have g_sgn := ok_sign T g_one
  have g_pp := ok_plain T g_num g_sgn
  have g_ri := ok_rinit (P := P) (w := w) (base := base) T
  have g_un := ok_unpacked T g_ri g_one g_num g_pp
  have g_box := ok_box (P := P) (w := w) (base := base) T
  have g_take := ok_take (P := P) (w := w) (base := base) T
  have g_pick := ok_pick T g_take
  have g_sig := ok_signs (P := P) (w := w) (base := base) T
  have g_sev := ok_sevens (P := P) (w := w) (base := base) T
  have g_sr := ok_sevread (P := P) (w := w) (base := base) T
  have g_or := ok_oneread T g_sr g_sig
  have g_rd := ok_read T g_sr g_or
  have g_told := ok_told T g_un
  have g_pk := ok_packed T g_is g_cn
  have g_same : ∀ n, FnOk P w K mg base CX0 (n + 1) T._law_same.f T._law_same.fd ["told", "due"] (spSame K n) := ok_same T
  have g_oct := ok_octs T g_sev g_sig 4
  have g_any := ok_any T g_take g_pick 4
  have g_xor := ok_xored (P := P) (w := w) (base := base) T
  have g_wei := ok_weighed (P := P) (w := w) (base := base) T
  have g_hd := ok_head T g_xor
  have g_ft := ok_foot T g_xor g_wei
  have g_fr := ok_frame T g_hd g_ft
  have g_fd := ok_framed (P := P) (w := w) (base := base) T
  have g_fo := ok_framesof T g_hd g_ft
  have g_wh := ok_whole T g_fd
  have g_mr := ok_mread (P := P) (w := w) (base := base) T
  have g_ms := ok_msync (P := P) (w := w) (base := base) T
  have g_mw := ok_mwrite (P := P) (w := w) (base := base) T
  have g_mb := ok_mbegin (P := P) (w := w) (base := base) T
  have g_mt := ok_mtrim (P := P) (w := w) (base := base) T
  have g_mi := ok_minit (P := P) (w := w) (base := base) T
  have g_mc := ok_mchoices (P := P) (w := w) (base := base) T
  have g_cut := ok_mcut T g_mi g_mc
  have g_turn := ok_turn T g_take g_pick g_mw g_ms g_mb g_mt g_mc g_cut g_mr
  have g_beg := ok_begun T g_mi g_mw g_ms g_mb g_mc g_cut g_mr (g_same 3)
  exact ok_law T ⟨g_beg, g_box, g_any, g_oct, g_take, g_told, g_same 220, g_rd, g_pk, g_fr, g_fd, g_wh, g_fo, g_mi, g_turn, g_mr, g_mc⟩
theorem all_mk {l : PySem.W.OpenLaw} {w : World} {K : PySem.W.Frag} {h : Heap} {mg : Str → Option Value} {fa : Addr} (X : K.In h) (G : h.Ns mainGlobals mg) (hfa : mg "law" = some (.ref fa))
    {CBadOctets : Addr}
    {CRefused : Addr}
    {CReader : Addr}
    {CMedium : Addr}
    {fis_int : Addr} {odis_int anis_int : Option Addr} {ocis_int kVis_int dcis_int pmis_int cdis_int ctis_int : Value} {slis_int : Array (Option Value)}
    {fcounted : Addr} {odcounted ancounted : Option Addr} {occounted kVcounted dccounted pmcounted cdcounted ctcounted : Value} {slcounted : Array (Option Value)}
    {fpacked : Addr} {odpacked anpacked : Option Addr} {ocpacked kVpacked dcpacked pmpacked cdpacked ctpacked : Value} {slpacked : Array (Option Value)}
    {fReader_init : Addr} {odReader_init anReader_init : Option Addr} {ocReader_init kVReader_init dcReader_init pmReader_init cdReader_init ctReader_init : Value} {slReader_init : Array (Option Value)}
    {fReader_one : Addr} {odReader_one anReader_one : Option Addr} {ocReader_one kVReader_one dcReader_one pmReader_one cdReader_one ctReader_one : Value} {slReader_one : Array (Option Value)}
    {fReader_number : Addr} {odReader_number anReader_number : Option Addr} {ocReader_number kVReader_number dcReader_number pmReader_number cdReader_number ctReader_number : Value} {slReader_number : Array (Option Value)}
    {fReader_sign : Addr} {odReader_sign anReader_sign : Option Addr} {ocReader_sign kVReader_sign dcReader_sign pmReader_sign cdReader_sign ctReader_sign : Value} {slReader_sign : Array (Option Value)}
    {fplain_part : Addr} {odplain_part anplain_part : Option Addr} {ocplain_part kVplain_part dcplain_part pmplain_part cdplain_part ctplain_part : Value} {slplain_part : Array (Option Value)}
    {funpacked : Addr} {odunpacked anunpacked : Option Addr} {ocunpacked kVunpacked dcunpacked pmunpacked cdunpacked ctunpacked : Value} {slunpacked : Array (Option Value)}
    {fxored : Addr} {odxored anxored : Option Addr} {ocxored kVxored dcxored pmxored cdxored ctxored : Value} {slxored : Array (Option Value)}
    {fweighed : Addr} {odweighed anweighed : Option Addr} {ocweighed kVweighed dcweighed pmweighed cdweighed ctweighed : Value} {slweighed : Array (Option Value)}
    {fhead_of : Addr} {odhead_of anhead_of : Option Addr} {ochead_of kVhead_of dchead_of pmhead_of cdhead_of cthead_of : Value} {slhead_of : Array (Option Value)}
    {ffoot_of : Addr} {odfoot_of anfoot_of : Option Addr} {ocfoot_of kVfoot_of dcfoot_of pmfoot_of cdfoot_of ctfoot_of : Value} {slfoot_of : Array (Option Value)}
    {fframe : Addr} {odframe anframe : Option Addr} {ocframe kVframe dcframe pmframe cdframe ctframe : Value} {slframe : Array (Option Value)}
    {fframes_of : Addr} {odframes_of anframes_of : Option Addr} {ocframes_of kVframes_of dcframes_of pmframes_of cdframes_of ctframes_of : Value} {slframes_of : Array (Option Value)}
    {fMedium_init : Addr} {odMedium_init anMedium_init : Option Addr} {ocMedium_init kVMedium_init dcMedium_init pmMedium_init cdMedium_init ctMedium_init : Value} {slMedium_init : Array (Option Value)}
    {fMedium_read : Addr} {odMedium_read anMedium_read : Option Addr} {ocMedium_read kVMedium_read dcMedium_read pmMedium_read cdMedium_read ctMedium_read : Value} {slMedium_read : Array (Option Value)}
    {fMedium_begin : Addr} {odMedium_begin anMedium_begin : Option Addr} {ocMedium_begin kVMedium_begin dcMedium_begin pmMedium_begin cdMedium_begin ctMedium_begin : Value} {slMedium_begin : Array (Option Value)}
    {fMedium_write : Addr} {odMedium_write anMedium_write : Option Addr} {ocMedium_write kVMedium_write dcMedium_write pmMedium_write cdMedium_write ctMedium_write : Value} {slMedium_write : Array (Option Value)}
    {fMedium_sync : Addr} {odMedium_sync anMedium_sync : Option Addr} {ocMedium_sync kVMedium_sync dcMedium_sync pmMedium_sync cdMedium_sync ctMedium_sync : Value} {slMedium_sync : Array (Option Value)}
    {fMedium_trim : Addr} {odMedium_trim anMedium_trim : Option Addr} {ocMedium_trim kVMedium_trim dcMedium_trim pmMedium_trim cdMedium_trim ctMedium_trim : Value} {slMedium_trim : Array (Option Value)}
    {fMedium_choices : Addr} {odMedium_choices anMedium_choices : Option Addr} {ocMedium_choices kVMedium_choices dcMedium_choices pmMedium_choices cdMedium_choices ctMedium_choices : Value} {slMedium_choices : Array (Option Value)}
    {fMedium_cut : Addr} {odMedium_cut anMedium_cut : Option Addr} {ocMedium_cut kVMedium_cut dcMedium_cut pmMedium_cut cdMedium_cut ctMedium_cut : Value} {slMedium_cut : Array (Option Value)}
    {f_law_box : Addr} {od_law_box an_law_box : Option Addr} {oc_law_box kV_law_box dc_law_box pm_law_box cd_law_box ct_law_box : Value} {sl_law_box : Array (Option Value)}
    {f_law_take : Addr} {od_law_take an_law_take : Option Addr} {oc_law_take kV_law_take dc_law_take pm_law_take cd_law_take ct_law_take : Value} {sl_law_take : Array (Option Value)}
    {f_law_pick : Addr} {od_law_pick an_law_pick : Option Addr} {oc_law_pick kV_law_pick dc_law_pick pm_law_pick cd_law_pick ct_law_pick : Value} {sl_law_pick : Array (Option Value)}
    {f_law_same : Addr} {od_law_same an_law_same : Option Addr} {oc_law_same kV_law_same dc_law_same pm_law_same cd_law_same ct_law_same : Value} {sl_law_same : Array (Option Value)}
    {f_law_signs : Addr} {od_law_signs an_law_signs : Option Addr} {oc_law_signs kV_law_signs dc_law_signs pm_law_signs cd_law_signs ct_law_signs : Value} {sl_law_signs : Array (Option Value)}
    {f_law_sevens : Addr} {od_law_sevens an_law_sevens : Option Addr} {oc_law_sevens kV_law_sevens dc_law_sevens pm_law_sevens cd_law_sevens ct_law_sevens : Value} {sl_law_sevens : Array (Option Value)}
    {f_law_octets : Addr} {od_law_octets an_law_octets : Option Addr} {oc_law_octets kV_law_octets dc_law_octets pm_law_octets cd_law_octets ct_law_octets : Value} {sl_law_octets : Array (Option Value)}
    {f_law_framed : Addr} {od_law_framed an_law_framed : Option Addr} {oc_law_framed kV_law_framed dc_law_framed pm_law_framed cd_law_framed ct_law_framed : Value} {sl_law_framed : Array (Option Value)}
    {f_law_whole_frames : Addr} {od_law_whole_frames an_law_whole_frames : Option Addr} {oc_law_whole_frames kV_law_whole_frames dc_law_whole_frames pm_law_whole_frames cd_law_whole_frames ct_law_whole_frames : Value} {sl_law_whole_frames : Array (Option Value)}
    {f_law_any_value : Addr} {od_law_any_value an_law_any_value : Option Addr} {oc_law_any_value kV_law_any_value dc_law_any_value pm_law_any_value cd_law_any_value ct_law_any_value : Value} {sl_law_any_value : Array (Option Value)}
    {f_law_sevens_read : Addr} {od_law_sevens_read an_law_sevens_read : Option Addr} {oc_law_sevens_read kV_law_sevens_read dc_law_sevens_read pm_law_sevens_read cd_law_sevens_read ct_law_sevens_read : Value} {sl_law_sevens_read : Array (Option Value)}
    {f_law_one_read : Addr} {od_law_one_read an_law_one_read : Option Addr} {oc_law_one_read kV_law_one_read dc_law_one_read pm_law_one_read cd_law_one_read ct_law_one_read : Value} {sl_law_one_read : Array (Option Value)}
    {f_law_read : Addr} {od_law_read an_law_read : Option Addr} {oc_law_read kV_law_read dc_law_read pm_law_read cd_law_read ct_law_read : Value} {sl_law_read : Array (Option Value)}
    {f_law_told_of_octets : Addr} {od_law_told_of_octets an_law_told_of_octets : Option Addr} {oc_law_told_of_octets kV_law_told_of_octets dc_law_told_of_octets pm_law_told_of_octets cd_law_told_of_octets ct_law_told_of_octets : Value} {sl_law_told_of_octets : Array (Option Value)}
    {f_law_medium_turn : Addr} {od_law_medium_turn an_law_medium_turn : Option Addr} {oc_law_medium_turn kV_law_medium_turn dc_law_medium_turn pm_law_medium_turn cd_law_medium_turn ct_law_medium_turn : Value} {sl_law_medium_turn : Array (Option Value)}
    {f_law_begun_twice : Addr} {od_law_begun_twice an_law_begun_twice : Option Addr} {oc_law_begun_twice kV_law_begun_twice dc_law_begun_twice pm_law_begun_twice cd_law_begun_twice ct_law_begun_twice : Value} {sl_law_begun_twice : Array (Option Value)}
    {flaw : Addr} {odlaw anlaw : Option Addr} {oclaw kVlaw dclaw pmlaw cdlaw ctlaw : Value} {sllaw : Array (Option Value)}
    {IBadOctets : Addr} {nmBadOctets qBadOctets : Str} {NBadOctets : Addr} {bsBadOctets bmBadOctets : List Value} {snBadOctets : List Str} {subBadOctets : List Value} {abBadOctets : Bool} {colBadOctets : Option Bool} {ddBadOctets : Option Addr} {m0BadOctets m1BadOctets m2BadOctets m3BadOctets m5BadOctets : Option Value} {odBadOctets anBadOctets : Option Addr} {ocBadOctets dcBadOctets pmBadOctets ctBadOctets : Value} {cdaBadOctets ccBadOctets : Addr} {slBadOctets : Array (Option Value)} {cclBadOctets : Value} {cddBadOctets : Option Addr} {vsBadOctets : Array Value} {ccsBadOctets : Array (Option Value)} {fileBadOctets : Str} {tfBadOctets : Tok} {clBadOctets : Value} {cldBadOctets : Option Addr} {cslBadOctets : Array (Option Value)}
    {IRefused : Addr} {nmRefused qRefused : Str} {NRefused : Addr} {bsRefused bmRefused : List Value} {snRefused : List Str} {subRefused : List Value} {abRefused : Bool} {colRefused : Option Bool} {ddRefused : Option Addr} {m0Refused m1Refused m2Refused m3Refused m5Refused : Option Value} {odRefused anRefused : Option Addr} {ocRefused dcRefused pmRefused ctRefused : Value} {cdaRefused ccRefused : Addr} {slRefused : Array (Option Value)} {cclRefused : Value} {cddRefused : Option Addr} {vsRefused : Array Value} {ccsRefused : Array (Option Value)} {fileRefused : Str} {tfRefused : Tok} {clRefused : Value} {cldRefused : Option Addr} {cslRefused : Array (Option Value)}
    {yNONE : Tok}
    {yNO : Tok}
    {yYES : Tok}
    {yUP : Tok}
    {yDOWN : Tok}
    {yTEXT : Tok}
    {yROW : Tok}
    {zS : Str} {yS : Tok}
    {yHEAD : Tok}
    {yFOOT : Tok}
    {yWEIGHED : Tok}
    {aFILES : Addr} {dF : Option Addr} {z1 z2 z3 : Str} {y1 y2 y3 : Tok} {nF : Nat} {slF : Array (Option Value)}
    (aCBadOctets : PySem.W.nsIn K mainGlobals "BadOctets" = some (some (.ref CBadOctets)))
    (aCRefused : PySem.W.nsIn K mainGlobals "Refused" = some (some (.ref CRefused)))
    (aCReader : PySem.W.nsIn K mainGlobals "Reader" = some (some (.ref CReader)))
    (aCMedium : PySem.W.nsIn K mainGlobals "Medium" = some (some (.ref CMedium)))
    (ais_int : PySem.W.nsIn K mainGlobals "is_int" = some (some (.ref fis_int)))
    (lis_int : K.lookup fis_int = some ⟨ocis_int, odis_int, .func (PySem.W.fnOf "is_int" "is_int" (defArgs s_is_int) (defBody s_is_int) (defScope s_is_int) .none kVis_int dcis_int pmis_int anis_int cdis_int ctis_int), slis_int⟩)
    (cis_int : PySem.W.codeIn K cdis_int "is_int" = true)
    (kis_int : PySem.W.keepIn K (.ref fis_int) = true)
    (acounted : PySem.W.nsIn K mainGlobals "counted" = some (some (.ref fcounted)))
    (lcounted : K.lookup fcounted = some ⟨occounted, odcounted, .func (PySem.W.fnOf "counted" "counted" (defArgs s_counted) (defBody s_counted) (defScope s_counted) .none kVcounted dccounted pmcounted ancounted cdcounted ctcounted), slcounted⟩)
    (ccounted : PySem.W.codeIn K cdcounted "counted" = true)
    (kcounted : PySem.W.keepIn K (.ref fcounted) = true)
    (apacked : PySem.W.nsIn K mainGlobals "packed" = some (some (.ref fpacked)))
    (lpacked : K.lookup fpacked = some ⟨ocpacked, odpacked, .func (PySem.W.fnOf "packed" "packed" (defArgs s_packed) (defBody s_packed) (defScope s_packed) .none kVpacked dcpacked pmpacked anpacked cdpacked ctpacked), slpacked⟩)
    (cpacked : PySem.W.codeIn K cdpacked "packed" = true)
    (kpacked : PySem.W.keepIn K (.ref fpacked) = true)
    (aReader_init : PySem.W.findIn K (.ref CReader) "__init__" = some (some (.ref fReader_init)))
    (iReader_init : PySem.W.isFn K (.ref fReader_init) = true)
    (lReader_init : K.lookup fReader_init = some ⟨ocReader_init, odReader_init, .func (PySem.W.fnOf "__init__" "Reader.__init__" (defArgs s_Reader_init) (defBody s_Reader_init) (defScope s_Reader_init) .none kVReader_init dcReader_init pmReader_init anReader_init cdReader_init ctReader_init), slReader_init⟩)
    (cReader_init : PySem.W.codeIn K cdReader_init "Reader.__init__" = true)
    (kReader_init : PySem.W.keepIn K (.ref fReader_init) = true)
    (aReader_one : PySem.W.findIn K (.ref CReader) "one" = some (some (.ref fReader_one)))
    (iReader_one : PySem.W.isFn K (.ref fReader_one) = true)
    (lReader_one : K.lookup fReader_one = some ⟨ocReader_one, odReader_one, .func (PySem.W.fnOf "one" "Reader.one" (defArgs s_Reader_one) (defBody s_Reader_one) (defScope s_Reader_one) .none kVReader_one dcReader_one pmReader_one anReader_one cdReader_one ctReader_one), slReader_one⟩)
    (cReader_one : PySem.W.codeIn K cdReader_one "Reader.one" = true)
    (kReader_one : PySem.W.keepIn K (.ref fReader_one) = true)
    (aReader_number : PySem.W.findIn K (.ref CReader) "number" = some (some (.ref fReader_number)))
    (iReader_number : PySem.W.isFn K (.ref fReader_number) = true)
    (lReader_number : K.lookup fReader_number = some ⟨ocReader_number, odReader_number, .func (PySem.W.fnOf "number" "Reader.number" (defArgs s_Reader_number) (defBody s_Reader_number) (defScope s_Reader_number) .none kVReader_number dcReader_number pmReader_number anReader_number cdReader_number ctReader_number), slReader_number⟩)
    (cReader_number : PySem.W.codeIn K cdReader_number "Reader.number" = true)
    (kReader_number : PySem.W.keepIn K (.ref fReader_number) = true)
    (aReader_sign : PySem.W.findIn K (.ref CReader) "sign" = some (some (.ref fReader_sign)))
    (iReader_sign : PySem.W.isFn K (.ref fReader_sign) = true)
    (lReader_sign : K.lookup fReader_sign = some ⟨ocReader_sign, odReader_sign, .func (PySem.W.fnOf "sign" "Reader.sign" (defArgs s_Reader_sign) (defBody s_Reader_sign) (defScope s_Reader_sign) .none kVReader_sign dcReader_sign pmReader_sign anReader_sign cdReader_sign ctReader_sign), slReader_sign⟩)
    (cReader_sign : PySem.W.codeIn K cdReader_sign "Reader.sign" = true)
    (kReader_sign : PySem.W.keepIn K (.ref fReader_sign) = true)
    (aplain_part : PySem.W.nsIn K mainGlobals "plain_part" = some (some (.ref fplain_part)))
    (lplain_part : K.lookup fplain_part = some ⟨ocplain_part, odplain_part, .func (PySem.W.fnOf "plain_part" "plain_part" (defArgs s_plain_part) (defBody s_plain_part) (defScope s_plain_part) .none kVplain_part dcplain_part pmplain_part anplain_part cdplain_part ctplain_part), slplain_part⟩)
    (cplain_part : PySem.W.codeIn K cdplain_part "plain_part" = true)
    (kplain_part : PySem.W.keepIn K (.ref fplain_part) = true)
    (aunpacked : PySem.W.nsIn K mainGlobals "unpacked" = some (some (.ref funpacked)))
    (lunpacked : K.lookup funpacked = some ⟨ocunpacked, odunpacked, .func (PySem.W.fnOf "unpacked" "unpacked" (defArgs s_unpacked) (defBody s_unpacked) (defScope s_unpacked) .none kVunpacked dcunpacked pmunpacked anunpacked cdunpacked ctunpacked), slunpacked⟩)
    (cunpacked : PySem.W.codeIn K cdunpacked "unpacked" = true)
    (kunpacked : PySem.W.keepIn K (.ref funpacked) = true)
    (axored : PySem.W.nsIn K mainGlobals "xored" = some (some (.ref fxored)))
    (lxored : K.lookup fxored = some ⟨ocxored, odxored, .func (PySem.W.fnOf "xored" "xored" (defArgs s_xored) (defBody s_xored) (defScope s_xored) .none kVxored dcxored pmxored anxored cdxored ctxored), slxored⟩)
    (cxored : PySem.W.codeIn K cdxored "xored" = true)
    (kxored : PySem.W.keepIn K (.ref fxored) = true)
    (aweighed : PySem.W.nsIn K mainGlobals "weighed" = some (some (.ref fweighed)))
    (lweighed : K.lookup fweighed = some ⟨ocweighed, odweighed, .func (PySem.W.fnOf "weighed" "weighed" (defArgs s_weighed) (defBody s_weighed) (defScope s_weighed) .none kVweighed dcweighed pmweighed anweighed cdweighed ctweighed), slweighed⟩)
    (cweighed : PySem.W.codeIn K cdweighed "weighed" = true)
    (kweighed : PySem.W.keepIn K (.ref fweighed) = true)
    (ahead_of : PySem.W.nsIn K mainGlobals "head_of" = some (some (.ref fhead_of)))
    (lhead_of : K.lookup fhead_of = some ⟨ochead_of, odhead_of, .func (PySem.W.fnOf "head_of" "head_of" (defArgs s_head_of) (defBody s_head_of) (defScope s_head_of) .none kVhead_of dchead_of pmhead_of anhead_of cdhead_of cthead_of), slhead_of⟩)
    (chead_of : PySem.W.codeIn K cdhead_of "head_of" = true)
    (khead_of : PySem.W.keepIn K (.ref fhead_of) = true)
    (afoot_of : PySem.W.nsIn K mainGlobals "foot_of" = some (some (.ref ffoot_of)))
    (lfoot_of : K.lookup ffoot_of = some ⟨ocfoot_of, odfoot_of, .func (PySem.W.fnOf "foot_of" "foot_of" (defArgs s_foot_of) (defBody s_foot_of) (defScope s_foot_of) .none kVfoot_of dcfoot_of pmfoot_of anfoot_of cdfoot_of ctfoot_of), slfoot_of⟩)
    (cfoot_of : PySem.W.codeIn K cdfoot_of "foot_of" = true)
    (kfoot_of : PySem.W.keepIn K (.ref ffoot_of) = true)
    (aframe : PySem.W.nsIn K mainGlobals "frame" = some (some (.ref fframe)))
    (lframe : K.lookup fframe = some ⟨ocframe, odframe, .func (PySem.W.fnOf "frame" "frame" (defArgs s_frame) (defBody s_frame) (defScope s_frame) .none kVframe dcframe pmframe anframe cdframe ctframe), slframe⟩)
    (cframe : PySem.W.codeIn K cdframe "frame" = true)
    (kframe : PySem.W.keepIn K (.ref fframe) = true)
    (aframes_of : PySem.W.nsIn K mainGlobals "frames_of" = some (some (.ref fframes_of)))
    (lframes_of : K.lookup fframes_of = some ⟨ocframes_of, odframes_of, .func (PySem.W.fnOf "frames_of" "frames_of" (defArgs s_frames_of) (defBody s_frames_of) (defScope s_frames_of) .none kVframes_of dcframes_of pmframes_of anframes_of cdframes_of ctframes_of), slframes_of⟩)
    (cframes_of : PySem.W.codeIn K cdframes_of "frames_of" = true)
    (kframes_of : PySem.W.keepIn K (.ref fframes_of) = true)
    (aMedium_init : PySem.W.findIn K (.ref CMedium) "__init__" = some (some (.ref fMedium_init)))
    (iMedium_init : PySem.W.isFn K (.ref fMedium_init) = true)
    (lMedium_init : K.lookup fMedium_init = some ⟨ocMedium_init, odMedium_init, .func (PySem.W.fnOf "__init__" "Medium.__init__" (defArgs s_Medium_init) (defBody s_Medium_init) (defScope s_Medium_init) .none kVMedium_init dcMedium_init pmMedium_init anMedium_init cdMedium_init ctMedium_init), slMedium_init⟩)
    (cMedium_init : PySem.W.codeIn K cdMedium_init "Medium.__init__" = true)
    (kMedium_init : PySem.W.keepIn K (.ref fMedium_init) = true)
    (aMedium_read : PySem.W.findIn K (.ref CMedium) "read" = some (some (.ref fMedium_read)))
    (iMedium_read : PySem.W.isFn K (.ref fMedium_read) = true)
    (lMedium_read : K.lookup fMedium_read = some ⟨ocMedium_read, odMedium_read, .func (PySem.W.fnOf "read" "Medium.read" (defArgs s_Medium_read) (defBody s_Medium_read) (defScope s_Medium_read) .none kVMedium_read dcMedium_read pmMedium_read anMedium_read cdMedium_read ctMedium_read), slMedium_read⟩)
    (cMedium_read : PySem.W.codeIn K cdMedium_read "Medium.read" = true)
    (kMedium_read : PySem.W.keepIn K (.ref fMedium_read) = true)
    (aMedium_begin : PySem.W.findIn K (.ref CMedium) "begin" = some (some (.ref fMedium_begin)))
    (iMedium_begin : PySem.W.isFn K (.ref fMedium_begin) = true)
    (lMedium_begin : K.lookup fMedium_begin = some ⟨ocMedium_begin, odMedium_begin, .func (PySem.W.fnOf "begin" "Medium.begin" (defArgs s_Medium_begin) (defBody s_Medium_begin) (defScope s_Medium_begin) .none kVMedium_begin dcMedium_begin pmMedium_begin anMedium_begin cdMedium_begin ctMedium_begin), slMedium_begin⟩)
    (cMedium_begin : PySem.W.codeIn K cdMedium_begin "Medium.begin" = true)
    (kMedium_begin : PySem.W.keepIn K (.ref fMedium_begin) = true)
    (aMedium_write : PySem.W.findIn K (.ref CMedium) "write" = some (some (.ref fMedium_write)))
    (iMedium_write : PySem.W.isFn K (.ref fMedium_write) = true)
    (lMedium_write : K.lookup fMedium_write = some ⟨ocMedium_write, odMedium_write, .func (PySem.W.fnOf "write" "Medium.write" (defArgs s_Medium_write) (defBody s_Medium_write) (defScope s_Medium_write) .none kVMedium_write dcMedium_write pmMedium_write anMedium_write cdMedium_write ctMedium_write), slMedium_write⟩)
    (cMedium_write : PySem.W.codeIn K cdMedium_write "Medium.write" = true)
    (kMedium_write : PySem.W.keepIn K (.ref fMedium_write) = true)
    (aMedium_sync : PySem.W.findIn K (.ref CMedium) "sync" = some (some (.ref fMedium_sync)))
    (iMedium_sync : PySem.W.isFn K (.ref fMedium_sync) = true)
    (lMedium_sync : K.lookup fMedium_sync = some ⟨ocMedium_sync, odMedium_sync, .func (PySem.W.fnOf "sync" "Medium.sync" (defArgs s_Medium_sync) (defBody s_Medium_sync) (defScope s_Medium_sync) .none kVMedium_sync dcMedium_sync pmMedium_sync anMedium_sync cdMedium_sync ctMedium_sync), slMedium_sync⟩)
    (cMedium_sync : PySem.W.codeIn K cdMedium_sync "Medium.sync" = true)
    (kMedium_sync : PySem.W.keepIn K (.ref fMedium_sync) = true)
    (aMedium_trim : PySem.W.findIn K (.ref CMedium) "trim" = some (some (.ref fMedium_trim)))
    (iMedium_trim : PySem.W.isFn K (.ref fMedium_trim) = true)
    (lMedium_trim : K.lookup fMedium_trim = some ⟨ocMedium_trim, odMedium_trim, .func (PySem.W.fnOf "trim" "Medium.trim" (defArgs s_Medium_trim) (defBody s_Medium_trim) (defScope s_Medium_trim) .none kVMedium_trim dcMedium_trim pmMedium_trim anMedium_trim cdMedium_trim ctMedium_trim), slMedium_trim⟩)
    (cMedium_trim : PySem.W.codeIn K cdMedium_trim "Medium.trim" = true)
    (kMedium_trim : PySem.W.keepIn K (.ref fMedium_trim) = true)
    (aMedium_choices : PySem.W.findIn K (.ref CMedium) "choices" = some (some (.ref fMedium_choices)))
    (iMedium_choices : PySem.W.isFn K (.ref fMedium_choices) = true)
    (lMedium_choices : K.lookup fMedium_choices = some ⟨ocMedium_choices, odMedium_choices, .func (PySem.W.fnOf "choices" "Medium.choices" (defArgs s_Medium_choices) (defBody s_Medium_choices) (defScope s_Medium_choices) .none kVMedium_choices dcMedium_choices pmMedium_choices anMedium_choices cdMedium_choices ctMedium_choices), slMedium_choices⟩)
    (cMedium_choices : PySem.W.codeIn K cdMedium_choices "Medium.choices" = true)
    (kMedium_choices : PySem.W.keepIn K (.ref fMedium_choices) = true)
    (aMedium_cut : PySem.W.findIn K (.ref CMedium) "cut" = some (some (.ref fMedium_cut)))
    (iMedium_cut : PySem.W.isFn K (.ref fMedium_cut) = true)
    (lMedium_cut : K.lookup fMedium_cut = some ⟨ocMedium_cut, odMedium_cut, .func (PySem.W.fnOf "cut" "Medium.cut" (defArgs s_Medium_cut) (defBody s_Medium_cut) (defScope s_Medium_cut) .none kVMedium_cut dcMedium_cut pmMedium_cut anMedium_cut cdMedium_cut ctMedium_cut), slMedium_cut⟩)
    (cMedium_cut : PySem.W.codeIn K cdMedium_cut "Medium.cut" = true)
    (kMedium_cut : PySem.W.keepIn K (.ref fMedium_cut) = true)
    (a_law_box : PySem.W.nsIn K mainGlobals "_law_box" = some (some (.ref f_law_box)))
    (l_law_box : K.lookup f_law_box = some ⟨oc_law_box, od_law_box, .func (PySem.W.fnOf "_law_box" "_law_box" (defArgs s__law_box) (defBody s__law_box) (defScope s__law_box) .none kV_law_box dc_law_box pm_law_box an_law_box cd_law_box ct_law_box), sl_law_box⟩)
    (c_law_box : PySem.W.codeIn K cd_law_box "_law_box" = true)
    (k_law_box : PySem.W.keepIn K (.ref f_law_box) = true)
    (a_law_take : PySem.W.nsIn K mainGlobals "_law_take" = some (some (.ref f_law_take)))
    (l_law_take : K.lookup f_law_take = some ⟨oc_law_take, od_law_take, .func (PySem.W.fnOf "_law_take" "_law_take" (defArgs s__law_take) (defBody s__law_take) (defScope s__law_take) .none kV_law_take dc_law_take pm_law_take an_law_take cd_law_take ct_law_take), sl_law_take⟩)
    (c_law_take : PySem.W.codeIn K cd_law_take "_law_take" = true)
    (k_law_take : PySem.W.keepIn K (.ref f_law_take) = true)
    (a_law_pick : PySem.W.nsIn K mainGlobals "_law_pick" = some (some (.ref f_law_pick)))
    (l_law_pick : K.lookup f_law_pick = some ⟨oc_law_pick, od_law_pick, .func (PySem.W.fnOf "_law_pick" "_law_pick" (defArgs s__law_pick) (defBody s__law_pick) (defScope s__law_pick) .none kV_law_pick dc_law_pick pm_law_pick an_law_pick cd_law_pick ct_law_pick), sl_law_pick⟩)
    (c_law_pick : PySem.W.codeIn K cd_law_pick "_law_pick" = true)
    (k_law_pick : PySem.W.keepIn K (.ref f_law_pick) = true)
    (a_law_same : PySem.W.nsIn K mainGlobals "_law_same" = some (some (.ref f_law_same)))
    (l_law_same : K.lookup f_law_same = some ⟨oc_law_same, od_law_same, .func (PySem.W.fnOf "_law_same" "_law_same" (defArgs s__law_same) (defBody s__law_same) (defScope s__law_same) .none kV_law_same dc_law_same pm_law_same an_law_same cd_law_same ct_law_same), sl_law_same⟩)
    (c_law_same : PySem.W.codeIn K cd_law_same "_law_same" = true)
    (k_law_same : PySem.W.keepIn K (.ref f_law_same) = true)
    (a_law_signs : PySem.W.nsIn K mainGlobals "_law_signs" = some (some (.ref f_law_signs)))
    (l_law_signs : K.lookup f_law_signs = some ⟨oc_law_signs, od_law_signs, .func (PySem.W.fnOf "_law_signs" "_law_signs" (defArgs s__law_signs) (defBody s__law_signs) (defScope s__law_signs) .none kV_law_signs dc_law_signs pm_law_signs an_law_signs cd_law_signs ct_law_signs), sl_law_signs⟩)
    (c_law_signs : PySem.W.codeIn K cd_law_signs "_law_signs" = true)
    (k_law_signs : PySem.W.keepIn K (.ref f_law_signs) = true)
    (a_law_sevens : PySem.W.nsIn K mainGlobals "_law_sevens" = some (some (.ref f_law_sevens)))
    (l_law_sevens : K.lookup f_law_sevens = some ⟨oc_law_sevens, od_law_sevens, .func (PySem.W.fnOf "_law_sevens" "_law_sevens" (defArgs s__law_sevens) (defBody s__law_sevens) (defScope s__law_sevens) .none kV_law_sevens dc_law_sevens pm_law_sevens an_law_sevens cd_law_sevens ct_law_sevens), sl_law_sevens⟩)
    (c_law_sevens : PySem.W.codeIn K cd_law_sevens "_law_sevens" = true)
    (k_law_sevens : PySem.W.keepIn K (.ref f_law_sevens) = true)
    (a_law_octets : PySem.W.nsIn K mainGlobals "_law_octets" = some (some (.ref f_law_octets)))
    (l_law_octets : K.lookup f_law_octets = some ⟨oc_law_octets, od_law_octets, .func (PySem.W.fnOf "_law_octets" "_law_octets" (defArgs s__law_octets) (defBody s__law_octets) (defScope s__law_octets) .none kV_law_octets dc_law_octets pm_law_octets an_law_octets cd_law_octets ct_law_octets), sl_law_octets⟩)
    (c_law_octets : PySem.W.codeIn K cd_law_octets "_law_octets" = true)
    (k_law_octets : PySem.W.keepIn K (.ref f_law_octets) = true)
    (a_law_framed : PySem.W.nsIn K mainGlobals "_law_framed" = some (some (.ref f_law_framed)))
    (l_law_framed : K.lookup f_law_framed = some ⟨oc_law_framed, od_law_framed, .func (PySem.W.fnOf "_law_framed" "_law_framed" (defArgs s__law_framed) (defBody s__law_framed) (defScope s__law_framed) .none kV_law_framed dc_law_framed pm_law_framed an_law_framed cd_law_framed ct_law_framed), sl_law_framed⟩)
    (c_law_framed : PySem.W.codeIn K cd_law_framed "_law_framed" = true)
    (k_law_framed : PySem.W.keepIn K (.ref f_law_framed) = true)
    (a_law_whole_frames : PySem.W.nsIn K mainGlobals "_law_whole_frames" = some (some (.ref f_law_whole_frames)))
    (l_law_whole_frames : K.lookup f_law_whole_frames = some ⟨oc_law_whole_frames, od_law_whole_frames, .func (PySem.W.fnOf "_law_whole_frames" "_law_whole_frames" (defArgs s__law_whole_frames) (defBody s__law_whole_frames) (defScope s__law_whole_frames) .none kV_law_whole_frames dc_law_whole_frames pm_law_whole_frames an_law_whole_frames cd_law_whole_frames ct_law_whole_frames), sl_law_whole_frames⟩)
    (c_law_whole_frames : PySem.W.codeIn K cd_law_whole_frames "_law_whole_frames" = true)
    (k_law_whole_frames : PySem.W.keepIn K (.ref f_law_whole_frames) = true)
    (a_law_any_value : PySem.W.nsIn K mainGlobals "_law_any_value" = some (some (.ref f_law_any_value)))
    (l_law_any_value : K.lookup f_law_any_value = some ⟨oc_law_any_value, od_law_any_value, .func (PySem.W.fnOf "_law_any_value" "_law_any_value" (defArgs s__law_any_value) (defBody s__law_any_value) (defScope s__law_any_value) .none kV_law_any_value dc_law_any_value pm_law_any_value an_law_any_value cd_law_any_value ct_law_any_value), sl_law_any_value⟩)
    (c_law_any_value : PySem.W.codeIn K cd_law_any_value "_law_any_value" = true)
    (k_law_any_value : PySem.W.keepIn K (.ref f_law_any_value) = true)
    (a_law_sevens_read : PySem.W.nsIn K mainGlobals "_law_sevens_read" = some (some (.ref f_law_sevens_read)))
    (l_law_sevens_read : K.lookup f_law_sevens_read = some ⟨oc_law_sevens_read, od_law_sevens_read, .func (PySem.W.fnOf "_law_sevens_read" "_law_sevens_read" (defArgs s__law_sevens_read) (defBody s__law_sevens_read) (defScope s__law_sevens_read) .none kV_law_sevens_read dc_law_sevens_read pm_law_sevens_read an_law_sevens_read cd_law_sevens_read ct_law_sevens_read), sl_law_sevens_read⟩)
    (c_law_sevens_read : PySem.W.codeIn K cd_law_sevens_read "_law_sevens_read" = true)
    (k_law_sevens_read : PySem.W.keepIn K (.ref f_law_sevens_read) = true)
    (a_law_one_read : PySem.W.nsIn K mainGlobals "_law_one_read" = some (some (.ref f_law_one_read)))
    (l_law_one_read : K.lookup f_law_one_read = some ⟨oc_law_one_read, od_law_one_read, .func (PySem.W.fnOf "_law_one_read" "_law_one_read" (defArgs s__law_one_read) (defBody s__law_one_read) (defScope s__law_one_read) .none kV_law_one_read dc_law_one_read pm_law_one_read an_law_one_read cd_law_one_read ct_law_one_read), sl_law_one_read⟩)
    (c_law_one_read : PySem.W.codeIn K cd_law_one_read "_law_one_read" = true)
    (k_law_one_read : PySem.W.keepIn K (.ref f_law_one_read) = true)
    (a_law_read : PySem.W.nsIn K mainGlobals "_law_read" = some (some (.ref f_law_read)))
    (l_law_read : K.lookup f_law_read = some ⟨oc_law_read, od_law_read, .func (PySem.W.fnOf "_law_read" "_law_read" (defArgs s__law_read) (defBody s__law_read) (defScope s__law_read) .none kV_law_read dc_law_read pm_law_read an_law_read cd_law_read ct_law_read), sl_law_read⟩)
    (c_law_read : PySem.W.codeIn K cd_law_read "_law_read" = true)
    (k_law_read : PySem.W.keepIn K (.ref f_law_read) = true)
    (a_law_told_of_octets : PySem.W.nsIn K mainGlobals "_law_told_of_octets" = some (some (.ref f_law_told_of_octets)))
    (l_law_told_of_octets : K.lookup f_law_told_of_octets = some ⟨oc_law_told_of_octets, od_law_told_of_octets, .func (PySem.W.fnOf "_law_told_of_octets" "_law_told_of_octets" (defArgs s__law_told_of_octets) (defBody s__law_told_of_octets) (defScope s__law_told_of_octets) .none kV_law_told_of_octets dc_law_told_of_octets pm_law_told_of_octets an_law_told_of_octets cd_law_told_of_octets ct_law_told_of_octets), sl_law_told_of_octets⟩)
    (c_law_told_of_octets : PySem.W.codeIn K cd_law_told_of_octets "_law_told_of_octets" = true)
    (k_law_told_of_octets : PySem.W.keepIn K (.ref f_law_told_of_octets) = true)
    (a_law_medium_turn : PySem.W.nsIn K mainGlobals "_law_medium_turn" = some (some (.ref f_law_medium_turn)))
    (l_law_medium_turn : K.lookup f_law_medium_turn = some ⟨oc_law_medium_turn, od_law_medium_turn, .func (PySem.W.fnOf "_law_medium_turn" "_law_medium_turn" (defArgs s__law_medium_turn) (defBody s__law_medium_turn) (defScope s__law_medium_turn) .none kV_law_medium_turn dc_law_medium_turn pm_law_medium_turn an_law_medium_turn cd_law_medium_turn ct_law_medium_turn), sl_law_medium_turn⟩)
    (c_law_medium_turn : PySem.W.codeIn K cd_law_medium_turn "_law_medium_turn" = true)
    (k_law_medium_turn : PySem.W.keepIn K (.ref f_law_medium_turn) = true)
    (a_law_begun_twice : PySem.W.nsIn K mainGlobals "_law_begun_twice" = some (some (.ref f_law_begun_twice)))
    (l_law_begun_twice : K.lookup f_law_begun_twice = some ⟨oc_law_begun_twice, od_law_begun_twice, .func (PySem.W.fnOf "_law_begun_twice" "_law_begun_twice" (defArgs s__law_begun_twice) (defBody s__law_begun_twice) (defScope s__law_begun_twice) .none kV_law_begun_twice dc_law_begun_twice pm_law_begun_twice an_law_begun_twice cd_law_begun_twice ct_law_begun_twice), sl_law_begun_twice⟩)
    (c_law_begun_twice : PySem.W.codeIn K cd_law_begun_twice "_law_begun_twice" = true)
    (k_law_begun_twice : PySem.W.keepIn K (.ref f_law_begun_twice) = true)
    (alaw : PySem.W.nsIn K mainGlobals "law" = some (some (.ref flaw)))
    (llaw : K.lookup flaw = some ⟨oclaw, odlaw, .func (PySem.W.fnOf "law" "law" (defArgs s_law) (defBody s_law) (defScope s_law) .none kVlaw dclaw pmlaw anlaw cdlaw ctlaw), sllaw⟩)
    (claw : PySem.W.codeIn K cdlaw "law" = true)
    (klaw : PySem.W.keepIn K (.ref flaw) = true)
    (xLBadOctets : K.lookup CBadOctets = some (excClassObj nmBadOctets qBadOctets CBadOctets NBadOctets bsBadOctets bmBadOctets true snBadOctets subBadOctets abBadOctets colBadOctets ddBadOctets m0BadOctets m1BadOctets m2BadOctets m3BadOctets m5BadOctets "ValueError.__new__"))
    (bm_BadOctets : HandSPX.refsVE bmBadOctets = true)
    (saBadOctets : PySem.W.findIn K (.ref CBadOctets) "__setattr__" = some (some (.builtin "object.__setattr__")))
    (gaBadOctets : PySem.W.findIn K (.ref CBadOctets) "__getattribute__" = some (some (.builtin "BaseException.__getattribute__")))
    (ggBadOctets : PySem.W.findIn K (.ref CBadOctets) "__getattr__" = some none)
    (nfBadOctets : PySem.W.findIn K (.ref CBadOctets) "at" = some none)
    (aiBadOctets : PySem.W.findIn K (.ref CBadOctets) "__init__" = some (some (.ref IBadOctets)))
    (tiBadOctets : PySem.W.typeIn K (.ref IBadOctets) = some (.type "function"))
    (kcBadOctets : PySem.W.keepIn K (.ref CBadOctets) = true)
    (ecBadOctets : PySem.W.subIn K (.ref CBadOctets) (.type "BaseException") = some true)
    (tcBadOctets : PySem.W.typeIn K (.ref CBadOctets) = some (.type "type"))
    (hcBadOctets : PySem.W.hasDictIn K CBadOctets = true)
    (teBadOctets : PySem.W.exmOne K (.ref CBadOctets) (.ref CBadOctets) = some true)
    (lfBadOctets : K.lookup IBadOctets = some ⟨ocBadOctets, odBadOctets, .func (PySem.W.ksFn "__init__" "BadOctets.__init__" (Own.iA "at" ⟨6, 17, 6, 21⟩ ⟨6, 23, 6, 25⟩) (Own.iB "no such octets" "at" ⟨7, 8, 7, 13⟩ ⟨7, 8, 7, 15⟩ ⟨7, 8, 7, 24⟩ ⟨7, 25, 7, 41⟩ ⟨7, 8, 7, 42⟩ ⟨7, 8, 7, 42⟩ ⟨8, 8, 8, 12⟩ ⟨8, 8, 8, 15⟩ ⟨8, 18, 8, 20⟩ ⟨8, 8, 8, 20⟩) (Own.iS "at") .none .none dcBadOctets pmBadOctets anBadOctets (.ref cdaBadOctets) ctBadOctets ccBadOctets), slBadOctets⟩)
    (cfBadOctets : PySem.W.codeIn K (.ref cdaBadOctets) "BadOctets.__init__" = true)
    (ldBadOctets : K.lookup cdaBadOctets = some ⟨cclBadOctets, cddBadOctets, .fields vsBadOctets, ccsBadOctets⟩)
    (v2BadOctets : vsBadOctets[2]? = some (.str fileBadOctets tfBadOctets))
    (feBadOctets : ((l.prog.main.file : Str) == fileBadOctets) = true)
    (leBadOctets : K.lookup ccBadOctets = some ⟨clBadOctets, cldBadOctets, .cell (some (.ref CBadOctets)), cslBadOctets⟩)
    (viBadOctets : PySem.W.ks_superIn K CBadOctets CBadOctets "__init__" = some (some (.builtin "ValueError.__init__")))
    (sbBadOctets : PySem.W.subIn K (.ref CBadOctets) (.type "ValueError") = some true)
    (msBadOctets : PySem.W.mroIn K CBadOctets (.ref CBadOctets) = some true)
    (xLRefused : K.lookup CRefused = some (excClassObj nmRefused qRefused CRefused NRefused bsRefused bmRefused true snRefused subRefused abRefused colRefused ddRefused m0Refused m1Refused m2Refused m3Refused m5Refused "ValueError.__new__"))
    (bm_Refused : HandSPX.refsVE bmRefused = true)
    (saRefused : PySem.W.findIn K (.ref CRefused) "__setattr__" = some (some (.builtin "object.__setattr__")))
    (gaRefused : PySem.W.findIn K (.ref CRefused) "__getattribute__" = some (some (.builtin "BaseException.__getattribute__")))
    (ggRefused : PySem.W.findIn K (.ref CRefused) "__getattr__" = some none)
    (nfRefused : PySem.W.findIn K (.ref CRefused) "value" = some none)
    (aiRefused : PySem.W.findIn K (.ref CRefused) "__init__" = some (some (.ref IRefused)))
    (tiRefused : PySem.W.typeIn K (.ref IRefused) = some (.type "function"))
    (kcRefused : PySem.W.keepIn K (.ref CRefused) = true)
    (ecRefused : PySem.W.subIn K (.ref CRefused) (.type "BaseException") = some true)
    (tcRefused : PySem.W.typeIn K (.ref CRefused) = some (.type "type"))
    (hcRefused : PySem.W.hasDictIn K CRefused = true)
    (teRefused : PySem.W.exmOne K (.ref CRefused) (.ref CRefused) = some true)
    (lfRefused : K.lookup IRefused = some ⟨ocRefused, odRefused, .func (PySem.W.ksFn "__init__" "Refused.__init__" (Own.iA "value" ⟨11, 17, 11, 21⟩ ⟨11, 23, 11, 28⟩) (Own.iB "this is not to be had" "value" ⟨12, 8, 12, 13⟩ ⟨12, 8, 12, 15⟩ ⟨12, 8, 12, 24⟩ ⟨12, 25, 12, 48⟩ ⟨12, 8, 12, 49⟩ ⟨12, 8, 12, 49⟩ ⟨13, 8, 13, 12⟩ ⟨13, 8, 13, 18⟩ ⟨13, 21, 13, 26⟩ ⟨13, 8, 13, 26⟩) (Own.iS "value") .none .none dcRefused pmRefused anRefused (.ref cdaRefused) ctRefused ccRefused), slRefused⟩)
    (cfRefused : PySem.W.codeIn K (.ref cdaRefused) "Refused.__init__" = true)
    (ldRefused : K.lookup cdaRefused = some ⟨cclRefused, cddRefused, .fields vsRefused, ccsRefused⟩)
    (v2Refused : vsRefused[2]? = some (.str fileRefused tfRefused))
    (feRefused : ((l.prog.main.file : Str) == fileRefused) = true)
    (leRefused : K.lookup ccRefused = some ⟨clRefused, cldRefused, .cell (some (.ref CRefused)), cslRefused⟩)
    (viRefused : PySem.W.ks_superIn K CRefused CRefused "__init__" = some (some (.builtin "ValueError.__init__")))
    (sbRefused : PySem.W.subIn K (.ref CRefused) (.type "ValueError") = some true)
    (msRefused : PySem.W.mroIn K CRefused (.ref CRefused) = some true)
    (pgReader : PySem.W.plainGet K CReader Str.empty = true)
    (hdReader : PySem.W.hasDictIn K CReader = true)
    (poReader : PySem.W.plainOver K CReader = true)
    (saReader : PySem.W.findIn K (.ref CReader) "__setattr__" = some (some (.builtin "object.__setattr__")))
    (mkReader : PySem.W.makesIn K CReader = true)
    (kcReader : PySem.W.keepIn K (.ref CReader) = true)
    (nReader_given : PySem.W.findIn K (.ref CReader) "given" = some none)
    (nReader_spot : PySem.W.findIn K (.ref CReader) "spot" = some none)
    (pgMedium : PySem.W.plainGet K CMedium Str.empty = true)
    (hdMedium : PySem.W.hasDictIn K CMedium = true)
    (poMedium : PySem.W.plainOver K CMedium = true)
    (saMedium : PySem.W.findIn K (.ref CMedium) "__setattr__" = some (some (.builtin "object.__setattr__")))
    (mkMedium : PySem.W.makesIn K CMedium = true)
    (kcMedium : PySem.W.keepIn K (.ref CMedium) = true)
    (nMedium_rows : PySem.W.findIn K (.ref CMedium) "rows" = some none)
    (nMedium_safe : PySem.W.findIn K (.ref CMedium) "safe" = some none)
    (nMedium_former : PySem.W.findIn K (.ref CMedium) "former" = some none)
    (zsuper : PySem.W.nsIn K mainGlobals "super" = some none)
    (htop : (l.prog.main.scope.names.lookup ("super" : Str)).isSome = false)
    (opq : PySem.W.nsIn K cStatics "thirdparty.any" = some none)
    (vNONE : PySem.W.nsIn K mainGlobals "NONE" = some (some (.int 0 yNONE)))
    (vNO : PySem.W.nsIn K mainGlobals "NO" = some (some (.int 1 yNO)))
    (vYES : PySem.W.nsIn K mainGlobals "YES" = some (some (.int 2 yYES)))
    (vUP : PySem.W.nsIn K mainGlobals "UP" = some (some (.int 3 yUP)))
    (vDOWN : PySem.W.nsIn K mainGlobals "DOWN" = some (some (.int 4 yDOWN)))
    (vTEXT : PySem.W.nsIn K mainGlobals "TEXT" = some (some (.int 5 yTEXT)))
    (vROW : PySem.W.nsIn K mainGlobals "ROW" = some (some (.int 6 yROW)))
    (aS : PySem.W.nsIn K mainGlobals "SIGNS" = some (some (.str zS yS)))
    (eS : zS = sigS)
    (vHEAD : PySem.W.nsIn K mainGlobals "HEAD" = some (some (.int 4 yHEAD)))
    (vFOOT : PySem.W.nsIn K mainGlobals "FOOT" = some (some (.int 3 yFOOT)))
    (vWEIGHED : PySem.W.nsIn K mainGlobals "WEIGHED" = some (some (.int 65521 yWEIGHED)))
    (aF : PySem.W.nsIn K mainGlobals "FILES" = some (some (.ref aFILES)))
    (lF : K.lookup aFILES = some ⟨.type "tuple", dF, .seq #[.str z1 y1, .str z2 y2, .str z3 y3] nF, slF⟩)
    (e1 : z1 = "life")
    (e2 : z2 = "left")
    (e3 : z3 = "right")
    (zabs : PySem.W.nsIn K mainGlobals "abs" = some none)
    (zbool : PySem.W.nsIn K mainGlobals "bool" = some none)
    (zenumerate : PySem.W.nsIn K mainGlobals "enumerate" = some none)
    (zint : PySem.W.nsIn K mainGlobals "int" = some none)
    (zisinstance : PySem.W.nsIn K mainGlobals "isinstance" = some none)
    (zlen : PySem.W.nsIn K mainGlobals "len" = some none)
    (zlist : PySem.W.nsIn K mainGlobals "list" = some none)
    (zmax : PySem.W.nsIn K mainGlobals "max" = some none)
    (zmin : PySem.W.nsIn K mainGlobals "min" = some none)
    (zrange : PySem.W.nsIn K mainGlobals "range" = some none)
    (zstr : PySem.W.nsIn K mainGlobals "str" = some none)
    (zsum : PySem.W.nsIn K mainGlobals "sum" = some none)
    (ztuple : PySem.W.nsIn K mainGlobals "tuple" = some none)
    (zzip : PySem.W.nsIn K mainGlobals "zip" = some none)
    : ∃ fd : FuncData, (∀ (s : Shared) (v : Value), BindsTo s fd ⟨[v], []⟩ [("script", v)]) ∧ ∀ base : Heap, K.In base → base.Ns mainGlobals mg → FnOk l.prog w K mg base CX0 222 fa fd ["script"] (spLaw K) := by
  have e := hfa.symm.trans (PySem.W.mg_of X G alaw)
  cases e
  let T : Tx l.prog K mg := {
    is_int := ⟨_, _, (fun_mk (st := s_is_int) lis_int cis_int kis_int), PySem.W.mg_of X G ais_int, (fun_mk (st := s_is_int) lis_int cis_int kis_int).binds (ps := ["value"]) (fun _ _ _ _ _ _ us hl => match us, hl with | [_], _ => rfl)⟩,
    counted := ⟨_, _, (fun_mk (st := s_counted) lcounted ccounted kcounted), PySem.W.mg_of X G acounted, (fun_mk (st := s_counted) lcounted ccounted kcounted).binds (ps := ["number"]) (fun _ _ _ _ _ _ us hl => match us, hl with | [_], _ => rfl)⟩,
    packed := ⟨_, _, (fun_mk (st := s_packed) lpacked cpacked kpacked), PySem.W.mg_of X G apacked, (fun_mk (st := s_packed) lpacked cpacked kpacked).binds (ps := ["value"]) (fun _ _ _ _ _ _ us hl => match us, hl with | [_], _ => rfl)⟩,
    Reader_init := ⟨fReader_init, _, (fun_mk (st := s_Reader_init) lReader_init cReader_init kReader_init), ⟨aReader_init, iReader_init, kReader_init⟩, (fun_mk (st := s_Reader_init) lReader_init cReader_init kReader_init).binds (ps := ["self", "octets"]) (fun _ _ _ _ _ _ us hl => match us, hl with | [_, _], _ => rfl)⟩,
    Reader_one := ⟨fReader_one, _, (fun_mk (st := s_Reader_one) lReader_one cReader_one kReader_one), ⟨aReader_one, iReader_one, kReader_one⟩, (fun_mk (st := s_Reader_one) lReader_one cReader_one kReader_one).binds (ps := ["self"]) (fun _ _ _ _ _ _ us hl => match us, hl with | [_], _ => rfl)⟩,
    Reader_number := ⟨fReader_number, _, (fun_mk (st := s_Reader_number) lReader_number cReader_number kReader_number), ⟨aReader_number, iReader_number, kReader_number⟩, (fun_mk (st := s_Reader_number) lReader_number cReader_number kReader_number).binds (ps := ["self"]) (fun _ _ _ _ _ _ us hl => match us, hl with | [_], _ => rfl)⟩,
    Reader_sign := ⟨fReader_sign, _, (fun_mk (st := s_Reader_sign) lReader_sign cReader_sign kReader_sign), ⟨aReader_sign, iReader_sign, kReader_sign⟩, (fun_mk (st := s_Reader_sign) lReader_sign cReader_sign kReader_sign).binds (ps := ["self"]) (fun _ _ _ _ _ _ us hl => match us, hl with | [_], _ => rfl)⟩,
    plain_part := ⟨_, _, (fun_mk (st := s_plain_part) lplain_part cplain_part kplain_part), PySem.W.mg_of X G aplain_part, (fun_mk (st := s_plain_part) lplain_part cplain_part kplain_part).binds (ps := ["reader", "tag"]) (fun _ _ _ _ _ _ us hl => match us, hl with | [_, _], _ => rfl)⟩,
    unpacked := ⟨_, _, (fun_mk (st := s_unpacked) lunpacked cunpacked kunpacked), PySem.W.mg_of X G aunpacked, (fun_mk (st := s_unpacked) lunpacked cunpacked kunpacked).binds (ps := ["octets"]) (fun _ _ _ _ _ _ us hl => match us, hl with | [_], _ => rfl)⟩,
    xored := ⟨_, _, (fun_mk (st := s_xored) lxored cxored kxored), PySem.W.mg_of X G axored, (fun_mk (st := s_xored) lxored cxored kxored).binds (ps := ["octets"]) (fun _ _ _ _ _ _ us hl => match us, hl with | [_], _ => rfl)⟩,
    weighed := ⟨_, _, (fun_mk (st := s_weighed) lweighed cweighed kweighed), PySem.W.mg_of X G aweighed, (fun_mk (st := s_weighed) lweighed cweighed kweighed).binds (ps := ["octets"]) (fun _ _ _ _ _ _ us hl => match us, hl with | [_], _ => rfl)⟩,
    head_of := ⟨_, _, (fun_mk (st := s_head_of) lhead_of chead_of khead_of), PySem.W.mg_of X G ahead_of, (fun_mk (st := s_head_of) lhead_of chead_of khead_of).binds (ps := ["kind", "long"]) (fun _ _ _ _ _ _ us hl => match us, hl with | [_, _], _ => rfl)⟩,
    foot_of := ⟨_, _, (fun_mk (st := s_foot_of) lfoot_of cfoot_of kfoot_of), PySem.W.mg_of X G afoot_of, (fun_mk (st := s_foot_of) lfoot_of cfoot_of kfoot_of).binds (ps := ["payload"]) (fun _ _ _ _ _ _ us hl => match us, hl with | [_], _ => rfl)⟩,
    frame := ⟨_, _, (fun_mk (st := s_frame) lframe cframe kframe), PySem.W.mg_of X G aframe, (fun_mk (st := s_frame) lframe cframe kframe).binds (ps := ["kind", "payload"]) (fun _ _ _ _ _ _ us hl => match us, hl with | [_, _], _ => rfl)⟩,
    frames_of := ⟨_, _, (fun_mk (st := s_frames_of) lframes_of cframes_of kframes_of), PySem.W.mg_of X G aframes_of, (fun_mk (st := s_frames_of) lframes_of cframes_of kframes_of).binds (ps := ["octets"]) (fun _ _ _ _ _ _ us hl => match us, hl with | [_], _ => rfl)⟩,
    Medium_init := ⟨fMedium_init, _, (fun_mk (st := s_Medium_init) lMedium_init cMedium_init kMedium_init), ⟨aMedium_init, iMedium_init, kMedium_init⟩, (fun_mk (st := s_Medium_init) lMedium_init cMedium_init kMedium_init).binds (ps := ["self"]) (fun _ _ _ _ _ _ us hl => match us, hl with | [_], _ => rfl)⟩,
    Medium_read := ⟨fMedium_read, _, (fun_mk (st := s_Medium_read) lMedium_read cMedium_read kMedium_read), ⟨aMedium_read, iMedium_read, kMedium_read⟩, (fun_mk (st := s_Medium_read) lMedium_read cMedium_read kMedium_read).binds (ps := ["self", "name"]) (fun _ _ _ _ _ _ us hl => match us, hl with | [_, _], _ => rfl)⟩,
    Medium_begin := ⟨fMedium_begin, _, (fun_mk (st := s_Medium_begin) lMedium_begin cMedium_begin kMedium_begin), ⟨aMedium_begin, iMedium_begin, kMedium_begin⟩, (fun_mk (st := s_Medium_begin) lMedium_begin cMedium_begin kMedium_begin).binds (ps := ["self", "name"]) (fun _ _ _ _ _ _ us hl => match us, hl with | [_, _], _ => rfl)⟩,
    Medium_write := ⟨fMedium_write, _, (fun_mk (st := s_Medium_write) lMedium_write cMedium_write kMedium_write), ⟨aMedium_write, iMedium_write, kMedium_write⟩, (fun_mk (st := s_Medium_write) lMedium_write cMedium_write kMedium_write).binds (ps := ["self", "name", "octets"]) (fun _ _ _ _ _ _ us hl => match us, hl with | [_, _, _], _ => rfl)⟩,
    Medium_sync := ⟨fMedium_sync, _, (fun_mk (st := s_Medium_sync) lMedium_sync cMedium_sync kMedium_sync), ⟨aMedium_sync, iMedium_sync, kMedium_sync⟩, (fun_mk (st := s_Medium_sync) lMedium_sync cMedium_sync kMedium_sync).binds (ps := ["self", "name"]) (fun _ _ _ _ _ _ us hl => match us, hl with | [_, _], _ => rfl)⟩,
    Medium_trim := ⟨fMedium_trim, _, (fun_mk (st := s_Medium_trim) lMedium_trim cMedium_trim kMedium_trim), ⟨aMedium_trim, iMedium_trim, kMedium_trim⟩, (fun_mk (st := s_Medium_trim) lMedium_trim cMedium_trim kMedium_trim).binds (ps := ["self", "name", "long"]) (fun _ _ _ _ _ _ us hl => match us, hl with | [_, _, _], _ => rfl)⟩,
    Medium_choices := ⟨fMedium_choices, _, (fun_mk (st := s_Medium_choices) lMedium_choices cMedium_choices kMedium_choices), ⟨aMedium_choices, iMedium_choices, kMedium_choices⟩, (fun_mk (st := s_Medium_choices) lMedium_choices cMedium_choices kMedium_choices).binds (ps := ["self"]) (fun _ _ _ _ _ _ us hl => match us, hl with | [_], _ => rfl)⟩,
    Medium_cut := ⟨fMedium_cut, _, (fun_mk (st := s_Medium_cut) lMedium_cut cMedium_cut kMedium_cut), ⟨aMedium_cut, iMedium_cut, kMedium_cut⟩, (fun_mk (st := s_Medium_cut) lMedium_cut cMedium_cut kMedium_cut).binds (ps := ["self", "told"]) (fun _ _ _ _ _ _ us hl => match us, hl with | [_, _], _ => rfl)⟩,
    _law_box := ⟨_, _, (fun_mk (st := s__law_box) l_law_box c_law_box k_law_box), PySem.W.mg_of X G a_law_box, (fun_mk (st := s__law_box) l_law_box c_law_box k_law_box).binds (ps := ["script", "k"]) (fun _ _ _ _ _ _ us hl => match us, hl with | [_, _], _ => rfl)⟩,
    _law_take := ⟨_, _, (fun_mk (st := s__law_take) l_law_take c_law_take k_law_take), PySem.W.mg_of X G a_law_take, (fun_mk (st := s__law_take) l_law_take c_law_take k_law_take).binds (ps := ["box", "many"]) (fun _ _ _ _ _ _ us hl => match us, hl with | [_, _], _ => rfl)⟩,
    _law_pick := ⟨_, _, (fun_mk (st := s__law_pick) l_law_pick c_law_pick k_law_pick), PySem.W.mg_of X G a_law_pick, (fun_mk (st := s__law_pick) l_law_pick c_law_pick k_law_pick).binds (ps := ["box", "some"]) (fun _ _ _ _ _ _ us hl => match us, hl with | [_, _], _ => rfl)⟩,
    _law_same := ⟨_, _, (fun_mk (st := s__law_same) l_law_same c_law_same k_law_same), PySem.W.mg_of X G a_law_same, (fun_mk (st := s__law_same) l_law_same c_law_same k_law_same).binds (ps := ["told", "due"]) (fun _ _ _ _ _ _ us hl => match us, hl with | [_, _], _ => rfl)⟩,
    _law_signs := ⟨_, _, (fun_mk (st := s__law_signs) l_law_signs c_law_signs k_law_signs), PySem.W.mg_of X G a_law_signs, (fun_mk (st := s__law_signs) l_law_signs c_law_signs k_law_signs).binds (ps := []) (fun _ _ _ _ _ _ us hl => match us, hl with | [], _ => rfl)⟩,
    _law_sevens := ⟨_, _, (fun_mk (st := s__law_sevens) l_law_sevens c_law_sevens k_law_sevens), PySem.W.mg_of X G a_law_sevens, (fun_mk (st := s__law_sevens) l_law_sevens c_law_sevens k_law_sevens).binds (ps := ["number"]) (fun _ _ _ _ _ _ us hl => match us, hl with | [_], _ => rfl)⟩,
    _law_octets := ⟨_, _, (fun_mk (st := s__law_octets) l_law_octets c_law_octets k_law_octets), PySem.W.mg_of X G a_law_octets, (fun_mk (st := s__law_octets) l_law_octets c_law_octets k_law_octets).binds (ps := ["value"]) (fun _ _ _ _ _ _ us hl => match us, hl with | [_], _ => rfl)⟩,
    _law_framed := ⟨_, _, (fun_mk (st := s__law_framed) l_law_framed c_law_framed k_law_framed), PySem.W.mg_of X G a_law_framed, (fun_mk (st := s__law_framed) l_law_framed c_law_framed k_law_framed).binds (ps := ["kind", "payload"]) (fun _ _ _ _ _ _ us hl => match us, hl with | [_, _], _ => rfl)⟩,
    _law_whole_frames := ⟨_, _, (fun_mk (st := s__law_whole_frames) l_law_whole_frames c_law_whole_frames k_law_whole_frames), PySem.W.mg_of X G a_law_whole_frames, (fun_mk (st := s__law_whole_frames) l_law_whole_frames c_law_whole_frames k_law_whole_frames).binds (ps := ["octets"]) (fun _ _ _ _ _ _ us hl => match us, hl with | [_], _ => rfl)⟩,
    _law_any_value := ⟨_, _, (fun_mk (st := s__law_any_value) l_law_any_value c_law_any_value k_law_any_value), PySem.W.mg_of X G a_law_any_value, (fun_mk (st := s__law_any_value) l_law_any_value c_law_any_value k_law_any_value).binds (ps := ["box", "deep"]) (fun _ _ _ _ _ _ us hl => match us, hl with | [_, _], _ => rfl)⟩,
    _law_sevens_read := ⟨_, _, (fun_mk (st := s__law_sevens_read) l_law_sevens_read c_law_sevens_read k_law_sevens_read), PySem.W.mg_of X G a_law_sevens_read, (fun_mk (st := s__law_sevens_read) l_law_sevens_read c_law_sevens_read k_law_sevens_read).binds (ps := ["octets", "spot"]) (fun _ _ _ _ _ _ us hl => match us, hl with | [_, _], _ => rfl)⟩,
    _law_one_read := ⟨_, _, (fun_mk (st := s__law_one_read) l_law_one_read c_law_one_read k_law_one_read), PySem.W.mg_of X G a_law_one_read, (fun_mk (st := s__law_one_read) l_law_one_read c_law_one_read k_law_one_read).binds (ps := ["octets", "tag", "spot"]) (fun _ _ _ _ _ _ us hl => match us, hl with | [_, _, _], _ => rfl)⟩,
    _law_read := ⟨_, _, (fun_mk (st := s__law_read) l_law_read c_law_read k_law_read), PySem.W.mg_of X G a_law_read, (fun_mk (st := s__law_read) l_law_read c_law_read k_law_read).binds (ps := ["octets"]) (fun _ _ _ _ _ _ us hl => match us, hl with | [_], _ => rfl)⟩,
    _law_told_of_octets := ⟨_, _, (fun_mk (st := s__law_told_of_octets) l_law_told_of_octets c_law_told_of_octets k_law_told_of_octets), PySem.W.mg_of X G a_law_told_of_octets, (fun_mk (st := s__law_told_of_octets) l_law_told_of_octets c_law_told_of_octets k_law_told_of_octets).binds (ps := ["octets"]) (fun _ _ _ _ _ _ us hl => match us, hl with | [_], _ => rfl)⟩,
    _law_medium_turn := ⟨_, _, (fun_mk (st := s__law_medium_turn) l_law_medium_turn c_law_medium_turn k_law_medium_turn), PySem.W.mg_of X G a_law_medium_turn, (fun_mk (st := s__law_medium_turn) l_law_medium_turn c_law_medium_turn k_law_medium_turn).binds (ps := ["box", "medium", "files"]) (fun _ _ _ _ _ _ us hl => match us, hl with | [_, _, _], _ => rfl)⟩,
    _law_begun_twice := ⟨_, _, (fun_mk (st := s__law_begun_twice) l_law_begun_twice c_law_begun_twice k_law_begun_twice), PySem.W.mg_of X G a_law_begun_twice, (fun_mk (st := s__law_begun_twice) l_law_begun_twice c_law_begun_twice k_law_begun_twice).binds (ps := []) (fun _ _ _ _ _ _ us hl => match us, hl with | [], _ => rfl)⟩,
    law := ⟨_, _, (fun_mk (st := s_law) llaw claw klaw), PySem.W.mg_of X G alaw, (fun_mk (st := s_law) llaw claw klaw).binds (ps := ["script"]) (fun _ _ _ _ _ _ us hl => match us, hl with | [_], _ => rfl)⟩,
    CBadOctets := CBadOctets,
    IBadOctets := IBadOctets,
    BadOctets := { gC := PySem.W.mg_of X G aCBadOctets, cls := ⟨_, _, _, _, _, _, _, _, _, _, _, _, _, _, _, xLBadOctets, bm_BadOctets⟩, sa := saBadOctets, ga := gaBadOctets, gg := ggBadOctets, noN := nfBadOctets, iC := aiBadOctets, tC := tiBadOctets, kC := kcBadOctets, exC := ecBadOctets, tyC := tcBadOctets, hdC := hcBadOctets, te := teBadOctets, fn := ⟨_, _, _, _, _, _, _, _, _, _, _, _, _, _, _, _, _, _, _, _, _, _, _, lfBadOctets, cfBadOctets, ⟨_, _, _, _, _, _, ldBadOctets, v2BadOctets, feBadOctets⟩, ⟨_, _, _, leBadOctets⟩, rfl⟩, sup := PySem.W.mg_none_of X G zsuper, htop := htop, via := viBadOctets, sb := sbBadOctets, ms := msBadOctets, opq := opq },
    CRefused := CRefused,
    IRefused := IRefused,
    Refused := { gC := PySem.W.mg_of X G aCRefused, cls := ⟨_, _, _, _, _, _, _, _, _, _, _, _, _, _, _, xLRefused, bm_Refused⟩, sa := saRefused, ga := gaRefused, gg := ggRefused, noN := nfRefused, iC := aiRefused, tC := tiRefused, kC := kcRefused, exC := ecRefused, tyC := tcRefused, hdC := hcRefused, te := teRefused, fn := ⟨_, _, _, _, _, _, _, _, _, _, _, _, _, _, _, _, _, _, _, _, _, _, _, lfRefused, cfRefused, ⟨_, _, _, _, _, _, ldRefused, v2Refused, feRefused⟩, ⟨_, _, _, leRefused⟩, rfl⟩, sup := PySem.W.mg_none_of X G zsuper, htop := htop, via := viRefused, sb := sbRefused, ms := msRefused, opq := opq },
    CReader := CReader,
    Reader := ⟨PySem.W.mg_of X G aCReader, ⟨pgReader, hdReader, poReader, saReader⟩, ⟨mkReader, aReader_init, iReader_init, kcReader⟩⟩,
    Reader_given := nReader_given,
    Reader_spot := nReader_spot,
    CMedium := CMedium,
    Medium := ⟨PySem.W.mg_of X G aCMedium, ⟨pgMedium, hdMedium, poMedium, saMedium⟩, ⟨mkMedium, aMedium_init, iMedium_init, kcMedium⟩⟩,
    Medium_rows := nMedium_rows,
    Medium_safe := nMedium_safe,
    Medium_former := nMedium_former,
    c_NONE := ⟨_, PySem.W.mg_of X G vNONE, ⟨_, rfl⟩⟩,
    c_NO := ⟨_, PySem.W.mg_of X G vNO, ⟨_, rfl⟩⟩,
    c_YES := ⟨_, PySem.W.mg_of X G vYES, ⟨_, rfl⟩⟩,
    c_UP := ⟨_, PySem.W.mg_of X G vUP, ⟨_, rfl⟩⟩,
    c_DOWN := ⟨_, PySem.W.mg_of X G vDOWN, ⟨_, rfl⟩⟩,
    c_TEXT := ⟨_, PySem.W.mg_of X G vTEXT, ⟨_, rfl⟩⟩,
    c_ROW := ⟨_, PySem.W.mg_of X G vROW, ⟨_, rfl⟩⟩,
    c_SIGNS := ⟨_, PySem.W.mg_of X G aS, ⟨_, by rw [eS]⟩⟩,
    c_HEAD := ⟨_, PySem.W.mg_of X G vHEAD, ⟨_, rfl⟩⟩,
    c_FOOT := ⟨_, PySem.W.mg_of X G vFOOT, ⟨_, rfl⟩⟩,
    c_WEIGHED := ⟨_, PySem.W.mg_of X G vWEIGHED, ⟨_, rfl⟩⟩,
    aFILES := aFILES,
    FILES_at := fun H => .inr ⟨_, _, _, lF, rfl, rfl, (by show 3 ≤ sizeLine; decide), (by subst e1 e2 e3; exact .cons ⟨_, rfl⟩ (.cons ⟨_, rfl⟩ (.cons ⟨_, rfl⟩ .nil)))⟩,
    c_FILES := ⟨_, PySem.W.mg_of X G aF, rfl⟩,
    n_abs := PySem.W.mg_none_of X G zabs,
    n_bool := PySem.W.mg_none_of X G zbool,
    n_enumerate := PySem.W.mg_none_of X G zenumerate,
    n_int := PySem.W.mg_none_of X G zint,
    n_isinstance := PySem.W.mg_none_of X G zisinstance,
    n_len := PySem.W.mg_none_of X G zlen,
    n_list := PySem.W.mg_none_of X G zlist,
    n_max := PySem.W.mg_none_of X G zmax,
    n_min := PySem.W.mg_none_of X G zmin,
    n_range := PySem.W.mg_none_of X G zrange,
    n_str := PySem.W.mg_none_of X G zstr,
    n_sum := PySem.W.mg_none_of X G zsum,
    n_tuple := PySem.W.mg_none_of X G ztuple,
    n_zip := PySem.W.mg_none_of X G zzip }
  exact ⟨T.law.fd, fun s v => .of_eq rfl, fun base _ _ => law_holds (base := base) T⟩
theorem walk {l : PySem.W.OpenLaw} {q : Program} {loose : List Str} {XP : (Str → Option Value) → Heap → Prop} {YP : World → Heap → Prop} {d : DefRec} {K : Params → PySem.W.Frag} (hn : l.most = some 63) (hdf : d.params.defaults = [])
    (hY : ∀ (w : World) (h : Heap), YP w h → (K w.params).In h)
    (F : ∀ (w : World) (mg : Str → Option Value) (fa : Addr) (h : Heap), (K w.params).In h → h.Ns mainGlobals mg → mg d.name = some (.ref fa) →
      ∃ fd : FuncData, (∀ (s : Shared) (u : Value), BindsTo s fd ⟨[u], []⟩ [("script", u)]) ∧ ∀ base : Heap, (K w.params).In base → base.Ns mainGlobals mg → FnOk l.prog w (K w.params) mg base CX0 222 fa fd ["script"] (spLaw (K w.params))) :
    PySem.W.WalkO q loose XP YP l.row.toRowW d [] (fun f vs => PySem.call f vs) :=
  L2.walk_of (n := 63) (k := 222) (x := "script") (CX := fun _ => CX0) (sp := fun w => spLaw (K w.params)) hn (by decide) hdf ⟨rfl, by decide, by decide⟩ hY F (fun _ _ a ns hl _ hS => ⟨a, ns, rfl, hS, Nat.le_trans hl (by decide), fun _ => rfl⟩) fun _ _ _ _ _ z => z
end K77

open PySem PySem.W PyProof.Rows in
set_option maxRecDepth 100000 in
set_option maxHeartbeats 0 in
theorem PySem.Challenge.cw_whattocheck_k77_whole_octets_and_what_a_holds : PySem.Challenge.rw_whattocheck_k77_whole_octets_and_what_a.Holds := by
  w_on; o_law; k_head; (case hw => w_witness2)
  k_fill
  refine K77.walk (l := PySem.Challenge.rw_whattocheck_k77_whole_octets_and_what_a) rfl rfl (fun w h Y => PySem.W.kIn_of Y) ?F
  case F =>
    intro w mg fa h KX G hmg
    refine' K77.all_mk KX G hmg ?aCBadOctets ?aCRefused ?aCReader ?aCMedium ?ais_int ?lis_int ?cis_int ?kis_int ?acounted ?lcounted ?ccounted ?kcounted ?apacked ?lpacked ?cpacked ?kpacked ?aReader_init ?iReader_init ?lReader_init ?cReader_init ?kReader_init ?aReader_one ?iReader_one ?lReader_one ?cReader_one ?kReader_one ?aReader_number ?iReader_number ?lReader_number ?cReader_number ?kReader_number ?aReader_sign ?iReader_sign ?lReader_sign ?cReader_sign ?kReader_sign ?aplain_part ?lplain_part ?cplain_part ?kplain_part ?aunpacked ?lunpacked ?cunpacked ?kunpacked ?axored ?lxored ?cxored ?kxored ?aweighed ?lweighed ?cweighed ?kweighed ?ahead_of ?lhead_of ?chead_of ?khead_of ?afoot_of ?lfoot_of ?cfoot_of ?kfoot_of ?aframe ?lframe ?cframe ?kframe ?aframes_of ?lframes_of ?cframes_of ?kframes_of ?aMedium_init ?iMedium_init ?lMedium_init ?cMedium_init ?kMedium_init ?aMedium_read ?iMedium_read ?lMedium_read ?cMedium_read ?kMedium_read ?aMedium_begin ?iMedium_begin ?lMedium_begin ?cMedium_begin ?kMedium_begin ?aMedium_write ?iMedium_write ?lMedium_write ?cMedium_write ?kMedium_write ?aMedium_sync ?iMedium_sync ?lMedium_sync ?cMedium_sync ?kMedium_sync ?aMedium_trim ?iMedium_trim ?lMedium_trim ?cMedium_trim ?kMedium_trim ?aMedium_choices ?iMedium_choices ?lMedium_choices ?cMedium_choices ?kMedium_choices ?aMedium_cut ?iMedium_cut ?lMedium_cut ?cMedium_cut ?kMedium_cut ?a_law_box ?l_law_box ?c_law_box ?k_law_box ?a_law_take ?l_law_take ?c_law_take ?k_law_take ?a_law_pick ?l_law_pick ?c_law_pick ?k_law_pick ?a_law_same ?l_law_same ?c_law_same ?k_law_same ?a_law_signs ?l_law_signs ?c_law_signs ?k_law_signs ?a_law_sevens ?l_law_sevens ?c_law_sevens ?k_law_sevens ?a_law_octets ?l_law_octets ?c_law_octets ?k_law_octets ?a_law_framed ?l_law_framed ?c_law_framed ?k_law_framed ?a_law_whole_frames ?l_law_whole_frames ?c_law_whole_frames ?k_law_whole_frames ?a_law_any_value ?l_law_any_value ?c_law_any_value ?k_law_any_value ?a_law_sevens_read ?l_law_sevens_read ?c_law_sevens_read ?k_law_sevens_read ?a_law_one_read ?l_law_one_read ?c_law_one_read ?k_law_one_read ?a_law_read ?l_law_read ?c_law_read ?k_law_read ?a_law_told_of_octets ?l_law_told_of_octets ?c_law_told_of_octets ?k_law_told_of_octets ?a_law_medium_turn ?l_law_medium_turn ?c_law_medium_turn ?k_law_medium_turn ?a_law_begun_twice ?l_law_begun_twice ?c_law_begun_twice ?k_law_begun_twice ?alaw ?llaw ?claw ?klaw ?xLBadOctets ?bm_BadOctets ?saBadOctets ?gaBadOctets ?ggBadOctets ?nfBadOctets ?aiBadOctets ?tiBadOctets ?kcBadOctets ?ecBadOctets ?tcBadOctets ?hcBadOctets ?teBadOctets ?lfBadOctets ?cfBadOctets ?ldBadOctets ?v2BadOctets ?feBadOctets ?leBadOctets ?viBadOctets ?sbBadOctets ?msBadOctets ?xLRefused ?bm_Refused ?saRefused ?gaRefused ?ggRefused ?nfRefused ?aiRefused ?tiRefused ?kcRefused ?ecRefused ?tcRefused ?hcRefused ?teRefused ?lfRefused ?cfRefused ?ldRefused ?v2Refused ?feRefused ?leRefused ?viRefused ?sbRefused ?msRefused ?pgReader ?hdReader ?poReader ?saReader ?mkReader ?kcReader ?nReader_given ?nReader_spot ?pgMedium ?hdMedium ?poMedium ?saMedium ?mkMedium ?kcMedium ?nMedium_rows ?nMedium_safe ?nMedium_former ?zsuper ?htop ?opq ?vNONE ?vNO ?vYES ?vUP ?vDOWN ?vTEXT ?vROW ?aS ?eS ?vHEAD ?vFOOT ?vWEIGHED ?aF ?lF ?e1 ?e2 ?e3 ?zabs ?zbool ?zenumerate ?zint ?zisinstance ?zlen ?zlist ?zmax ?zmin ?zrange ?zstr ?zsum ?ztuple ?zzip
    (case aCBadOctets => k_is)
    (case aCRefused => k_is)
    (case aCReader => k_is)
    (case aCMedium => k_is)
    (case ais_int => k_is)
    (case lis_int => k_is)
    (case cis_int => k_is)
    (case kis_int => k_is)
    (case acounted => k_is)
    (case lcounted => k_is)
    (case ccounted => k_is)
    (case kcounted => k_is)
    (case apacked => k_is)
    (case lpacked => k_is)
    (case cpacked => k_is)
    (case kpacked => k_is)
    (case aReader_init => k_is)
    (case iReader_init => k_is)
    (case lReader_init => k_is)
    (case cReader_init => k_is)
    (case kReader_init => k_is)
    (case aReader_one => k_is)
    (case iReader_one => k_is)
    (case lReader_one => k_is)
    (case cReader_one => k_is)
    (case kReader_one => k_is)
    (case aReader_number => k_is)
    (case iReader_number => k_is)
    (case lReader_number => k_is)
    (case cReader_number => k_is)
    (case kReader_number => k_is)
    (case aReader_sign => k_is)
    (case iReader_sign => k_is)
    (case lReader_sign => k_is)
    (case cReader_sign => k_is)
    (case kReader_sign => k_is)
    (case aplain_part => k_is)
    (case lplain_part => k_is)
    (case cplain_part => k_is)
    (case kplain_part => k_is)
    (case aunpacked => k_is)
    (case lunpacked => k_is)
    (case cunpacked => k_is)
    (case kunpacked => k_is)
    (case axored => k_is)
    (case lxored => k_is)
    (case cxored => k_is)
    (case kxored => k_is)
    (case aweighed => k_is)
    (case lweighed => k_is)
    (case cweighed => k_is)
    (case kweighed => k_is)
    (case ahead_of => k_is)
    (case lhead_of => k_is)
    (case chead_of => k_is)
    (case khead_of => k_is)
    (case afoot_of => k_is)
    (case lfoot_of => k_is)
    (case cfoot_of => k_is)
    (case kfoot_of => k_is)
    (case aframe => k_is)
    (case lframe => k_is)
    (case cframe => k_is)
    (case kframe => k_is)
    (case aframes_of => k_is)
    (case lframes_of => k_is)
    (case cframes_of => k_is)
    (case kframes_of => k_is)
    (case aMedium_init => k_is)
    (case iMedium_init => k_is)
    (case lMedium_init => k_is)
    (case cMedium_init => k_is)
    (case kMedium_init => k_is)
    (case aMedium_read => k_is)
    (case iMedium_read => k_is)
    (case lMedium_read => k_is)
    (case cMedium_read => k_is)
    (case kMedium_read => k_is)
    (case aMedium_begin => k_is)
    (case iMedium_begin => k_is)
    (case lMedium_begin => k_is)
    (case cMedium_begin => k_is)
    (case kMedium_begin => k_is)
    (case aMedium_write => k_is)
    (case iMedium_write => k_is)
    (case lMedium_write => k_is)
    (case cMedium_write => k_is)
    (case kMedium_write => k_is)
    (case aMedium_sync => k_is)
    (case iMedium_sync => k_is)
    (case lMedium_sync => k_is)
    (case cMedium_sync => k_is)
    (case kMedium_sync => k_is)
    (case aMedium_trim => k_is)
    (case iMedium_trim => k_is)
    (case lMedium_trim => k_is)
    (case cMedium_trim => k_is)
    (case kMedium_trim => k_is)
    (case aMedium_choices => k_is)
    (case iMedium_choices => k_is)
    (case lMedium_choices => k_is)
    (case cMedium_choices => k_is)
    (case kMedium_choices => k_is)
    (case aMedium_cut => k_is)
    (case iMedium_cut => k_is)
    (case lMedium_cut => k_is)
    (case cMedium_cut => k_is)
    (case kMedium_cut => k_is)
    (case a_law_box => k_is)
    (case l_law_box => k_is)
    (case c_law_box => k_is)
    (case k_law_box => k_is)
    (case a_law_take => k_is)
    (case l_law_take => k_is)
    (case c_law_take => k_is)
    (case k_law_take => k_is)
    (case a_law_pick => k_is)
    (case l_law_pick => k_is)
    (case c_law_pick => k_is)
    (case k_law_pick => k_is)
    (case a_law_same => k_is)
    (case l_law_same => k_is)
    (case c_law_same => k_is)
    (case k_law_same => k_is)
    (case a_law_signs => k_is)
    (case l_law_signs => k_is)
    (case c_law_signs => k_is)
    (case k_law_signs => k_is)
    (case a_law_sevens => k_is)
    (case l_law_sevens => k_is)
    (case c_law_sevens => k_is)
    (case k_law_sevens => k_is)
    (case a_law_octets => k_is)
    (case l_law_octets => k_is)
    (case c_law_octets => k_is)
    (case k_law_octets => k_is)
    (case a_law_framed => k_is)
    (case l_law_framed => k_is)
    (case c_law_framed => k_is)
    (case k_law_framed => k_is)
    (case a_law_whole_frames => k_is)
    (case l_law_whole_frames => k_is)
    (case c_law_whole_frames => k_is)
    (case k_law_whole_frames => k_is)
    (case a_law_any_value => k_is)
    (case l_law_any_value => k_is)
    (case c_law_any_value => k_is)
    (case k_law_any_value => k_is)
    (case a_law_sevens_read => k_is)
    (case l_law_sevens_read => k_is)
    (case c_law_sevens_read => k_is)
    (case k_law_sevens_read => k_is)
    (case a_law_one_read => k_is)
    (case l_law_one_read => k_is)
    (case c_law_one_read => k_is)
    (case k_law_one_read => k_is)
    (case a_law_read => k_is)
    (case l_law_read => k_is)
    (case c_law_read => k_is)
    (case k_law_read => k_is)
    (case a_law_told_of_octets => k_is)
    (case l_law_told_of_octets => k_is)
    (case c_law_told_of_octets => k_is)
    (case k_law_told_of_octets => k_is)
    (case a_law_medium_turn => k_is)
    (case l_law_medium_turn => k_is)
    (case c_law_medium_turn => k_is)
    (case k_law_medium_turn => k_is)
    (case a_law_begun_twice => k_is)
    (case l_law_begun_twice => k_is)
    (case c_law_begun_twice => k_is)
    (case k_law_begun_twice => k_is)
    (case alaw => k_is)
    (case llaw => k_is)
    (case claw => k_is)
    (case klaw => k_is)
    (case xLBadOctets => k_is)
    (case bm_BadOctets => first | rfl | decide +kernel)
    (case saBadOctets => k_is)
    (case gaBadOctets => k_is)
    (case ggBadOctets => k_is)
    (case nfBadOctets => k_is)
    (case aiBadOctets => k_is)
    (case tiBadOctets => k_is)
    (case kcBadOctets => k_is)
    (case ecBadOctets => k_is)
    (case tcBadOctets => k_is)
    (case hcBadOctets => k_is)
    (case teBadOctets => first | k_is | rfl | decide +kernel)
    (case lfBadOctets => k_is)
    (case cfBadOctets => k_is)
    (case ldBadOctets => k_is)
    (case v2BadOctets => first | rfl | decide +kernel)
    (case feBadOctets => first | rfl | decide +kernel)
    (case leBadOctets => k_is)
    (case viBadOctets => first | k_is | rfl | decide +kernel)
    (case sbBadOctets => k_is)
    (case msBadOctets => first | k_is | rfl | decide +kernel)
    (case xLRefused => k_is)
    (case bm_Refused => first | rfl | decide +kernel)
    (case saRefused => k_is)
    (case gaRefused => k_is)
    (case ggRefused => k_is)
    (case nfRefused => k_is)
    (case aiRefused => k_is)
    (case tiRefused => k_is)
    (case kcRefused => k_is)
    (case ecRefused => k_is)
    (case tcRefused => k_is)
    (case hcRefused => k_is)
    (case teRefused => first | k_is | rfl | decide +kernel)
    (case lfRefused => k_is)
    (case cfRefused => k_is)
    (case ldRefused => k_is)
    (case v2Refused => first | rfl | decide +kernel)
    (case feRefused => first | rfl | decide +kernel)
    (case leRefused => k_is)
    (case viRefused => first | k_is | rfl | decide +kernel)
    (case sbRefused => k_is)
    (case msRefused => first | k_is | rfl | decide +kernel)
    (case pgReader => k_is)
    (case hdReader => k_is)
    (case poReader => k_is)
    (case saReader => k_is)
    (case mkReader => k_is)
    (case kcReader => k_is)
    (case nReader_given => k_is)
    (case nReader_spot => k_is)
    (case pgMedium => k_is)
    (case hdMedium => k_is)
    (case poMedium => k_is)
    (case saMedium => k_is)
    (case mkMedium => k_is)
    (case kcMedium => k_is)
    (case nMedium_rows => k_is)
    (case nMedium_safe => k_is)
    (case nMedium_former => k_is)
    (case zsuper => k_is)
    (case htop => first | rfl | decide +kernel)
    (case opq => k_is)
    (case vNONE => k_is)
    (case vNO => k_is)
    (case vYES => k_is)
    (case vUP => k_is)
    (case vDOWN => k_is)
    (case vTEXT => k_is)
    (case vROW => k_is)
    (case aS => k_is)
    (case eS => first | rfl | decide +kernel)
    (case vHEAD => k_is)
    (case vFOOT => k_is)
    (case vWEIGHED => k_is)
    (case aF => k_is)
    (case lF => k_is)
    (case e1 => first | rfl | decide +kernel)
    (case e2 => first | rfl | decide +kernel)
    (case e3 => first | rfl | decide +kernel)
    (case zabs => k_is)
    (case zbool => k_is)
    (case zenumerate => k_is)
    (case zint => k_is)
    (case zisinstance => k_is)
    (case zlen => k_is)
    (case zlist => k_is)
    (case zmax => k_is)
    (case zmin => k_is)
    (case zrange => k_is)
    (case zstr => k_is)
    (case zsum => k_is)
    (case ztuple => k_is)
    (case zzip => k_is)
end
