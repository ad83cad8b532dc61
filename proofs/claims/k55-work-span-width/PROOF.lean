import PyProof.Rows.All
import Wide.All
import OpenK.AllK
import Wide.FinOn
import KE.KSuperObj
import KE.KSuper
import KE.KExcSuper
import HandS.ForMost
import HandS.Exc
import HandS.Defaults
import HandS.Lambda
import HandS.EndTab
import HandS.TryMany
import HandS.HeadWalk
import HandS.Style
import HandS.TupMul
import HandS.Zip
import HandS.IsInst
import HandS.SortInts
import HandS.Wide
import HandS.CallLocal
import HandS.TupLe
import HandS.More
import HandS.SetFor
import KE.KStateDown
import Lean
import HandS.Head0
import HandS.Head1
import HandS.Head2
import HandS.HeadEnd
import HandS.HeadHook1
import HandS.HeadHook2
import HandS.HeadHook3
import HandS.HeadHook4
import HandS.Walk
import HandS.TupAny
import PySem.Challenge.RW_heldshares_k55_whole_work_span_width
set_option Elab.async false
set_option linter.all false
set_option maxRecDepth 100000
set_option maxHeartbeats 4000000
/-! own exceptions whose __init__ says super().__init__(at); self.at = at -/
namespace PySem
namespace HX
open PySem.W PySem.Calls PyProof.Rows PySem.HandSPX
def iA (p1 p2 : Pos) : Arguments := { posonlyargs := [], args := [{ arg := "self", annotation := none, pos := p1 }, { arg := "at", annotation := none, pos := p2 }], vararg := none, kwonlyargs := [], kw_defaults := [], kwarg := none, defaults := [] }
def iB (q1 q2 q3 q4 q5 q6 q7 q8 q9 q10 : Pos) : List Stmt := [.Expr (.Call (.Attribute (.Call (.Name "super" q1) [] [] q2) "__init__" q3) [.Name "at" q4] [] q5) q6, .Assign [.Attribute (.Name "self" q7) "at" q8] (.Name "at" q9) q10]
def iS : Scope := { kind := .function, names := [(PySem.Str.ofString "self", .local), (PySem.Str.ofString "at", .local), (PySem.Str.ofString "__class__", .free), (PySem.Str.ofString "super", .globalImplicit)], isGenerator := false, isCoroutine := false, more := [] }
structure AtTxt (P : Program) (K : Frag) (mg : Str → Option Value) (C fI : Addr) : Prop where
  cls : ∃ nm q N bs bm sn sub ab col dd k0 k1 k2 k3 k5, K.lookup C = some (excClassObj nm q C N bs bm true sn sub ab col dd k0 k1 k2 k3 k5 "ValueError.__new__") ∧ refsVE bm = true
  sa : findIn K (.ref C) "__setattr__" = some (some (.builtin "object.__setattr__"))
  ga : findIn K (.ref C) "__getattribute__" = some (some (.builtin "BaseException.__getattribute__"))
  gg : findIn K (.ref C) "__getattr__" = some none
  noN : findIn K (.ref C) "at" = some none
  iC : findIn K (.ref C) "__init__" = some (some (.ref fI))
  tC : typeIn K (.ref fI) = some (.type "function")
  kC : keepIn K (.ref C) = true
  exC : subIn K (.ref C) (.type "BaseException") = some true
  veC : subIn K (.ref C) (.type "ValueError") = some true
  mC : mroIn K C (.ref C) = some true
  tyC : typeIn K (.ref C) = some (.type "type")
  hdC : hasDictIn K C = true
  sup : ks_superIn K C C "__init__" = some (some (.builtin "ValueError.__init__"))
  opq : nsIn K cStatics "thirdparty.any" = some none
  msup : mg "super" = none
  htop : (P.main.scope.names.lookup ("super" : Str)).isSome = false
  fn : ∃ (oc : Value) (od : Option Addr) (doc pm : Value) (an : Option Addr) (cda cc : Addr) (ct : Value) (osl : Array (Option Value)) (p1 p2 q1 q2 q3 q4 q5 q6 q7 q8 q9 q10 : Pos) (qual : Str),
    (q3.endLine == q5.line) = true ∧
    K.lookup fI = some ⟨oc, od, .func (fnX "__init__" qual (iA p1 p2) (iB q1 q2 q3 q4 q5 q6 q7 q8 q9 q10) iS [("__class__", cc)] .none .none doc pm an (.ref cda) ct), osl⟩ ∧ codeIn K (.ref cda) qual = true ∧
    (∃ cl cld csl, K.lookup cc = some ⟨cl, cld, .cell (some (.ref C)), csl⟩) ∧
    ∃ ccl cdd vs ccs file tf, K.lookup cda = some ⟨ccl, cdd, .fields vs, ccs⟩ ∧ vs[2]? = some (.str file tf) ∧ ((P.main.file : Str) == file) = true
theorem one_size (v : Value) : [v].length ≤ sizeLine := by
  rw [sizeLine_eq]
  exact (by decide : 1 ≤ 16777216)
structure InitEnd (h h' : Heap) (x C dx t1 : Addr) (v : Value) : Prop where
  keep : ∀ b o, b ≠ x → h.get? b = some o → h'.get? b = some o
  obj : h'.get? x = some { cls := .ref C, dict := some dx, data := .fields #[.ref t1, .none, .none, .none, .bool false, .none] }
  dbig : h.objs.size ≤ dx
  dne : dx ≠ x
  ns : h'.Ns1 dx (fun y => if y = "at" then some v else none)
structure OwnMade (h h' : Heap) (e C d : Addr) (v : Value) : Prop where
  keep : ∀ b o, h.get? b = some o → h'.get? b = some o
  new : h.objs.size ≤ e
  obj : ∃ oe vs, h'.get? e = some oe ∧ oe.cls = .ref C ∧ oe.dict = some d ∧ oe.data = .fields vs ∧ vs[1]? = some .none
  dbig : h.objs.size ≤ d
  dne : d ≠ e
  ns : h'.Ns1 d (fun y => if y = "at" then some v else none)
theorem kept_but {K : Frag} {h h' : Heap} {x : Addr} (X : K.In h) (hx : K.lookup x = none) (k : ∀ b o, b ≠ x → h.get? b = some o → h'.get? b = some o) : K.In h' := fun a o e =>
  k a o (fun z => by rw [z, hx] at e; cases e) (X a o e)
section
variable {prog : Program} {w : World} {A : Around} {E : Value → Shared → Prop} {R : Result → Shared → Prop} {s : Shared} {K : Frag} {mg mb : Str → Option Value} {C fI : Addr}
theorem at_init (T : AtTxt prog K mg C fI) {x t0 : Addr} {v : Value} (X : K.In s.heap) (G : s.heap.Ns mainGlobals mg) (B : s.heap.Ns builtinsNs mb) (BB : ∀ x : Str, x ≠ "__name__" → mb x = bootBuiltins x) (hlim : s.heap.NoLimit) (hx : s.heap.get? x = some (excO C t0)) (hnx : K.lookup x = none) (hroom : A.depth < recursionLimit)
    (hq : ∀ h' tk dx t1, InitEnd s.heap h' x C dx t1 v → R (.ok (.ret .none)) { s with heap := h', toks := tk }) :
    codeAny (model prog w) A (.call (.ref fI) ⟨[.ref x, v], []⟩) R s := by
  obtain ⟨oc, od, doc, pm, an, cda, cc, ct, osl, p1, p2, q1, q2, q3, q4, q5, q6, q7, q8, q9, q10, qual, hline, ho, hcd, ⟨cl, cld, csl, hcc⟩, ccl, cdd, vs, ccs, file, tf, hcda, hvs, hfile⟩ := T.fn
  obtain ⟨nm, q, N, bs, bm, sn, sub, ab, col, dd, k0, k1, k2, k3, k5, hC, hbm⟩ := T.cls
  have hcl : clsIn K C = some { name := nm, bases := bs, mro := .ref C :: bm, ns := N, qualname := q, hasDict := true, slotNames := sn, subclasses := sub, abstract := ab, collection := col, hasDel := false } := by unfold clsIn; rw [hC] <;> rfl
  have hkf : iS.kind = .function := rfl
  have hcell : ∀ y ∈ iS.names, y.2 ≠ .cell := by decide
  have hloc : ∀ y ∈ [(("self" : Str), Value.ref x), ("at", v)], iS.names.lookup y.1 = some .local := by
    intro y hy
    rcases List.mem_cons.mp hy with e | hy
    · rw [e]; rfl
    · rcases List.mem_cons.mp hy with e | hy
      · rw [e]; rfl
      · cases hy
  refine ks_codeAny_call_defAt (fd := fnX "__init__" qual (iA p1 p2) (iB q1 q2 q3 q4 q5 q6 q7 q8 q9 q10) iS [("__class__", cc)] .none .none doc pm an (.ref cda) ct) (body := iB q1 q2 q3 q4 q5 q6 q7 q8 q9 q10) (binds := [("self", .ref x), ("at", v)]) hroom (X _ _ ho) rfl hlim (codeRec_of X hcd) rfl (BindsTo.of_eq (by first | rfl | with_unfolding_all rfl)) hcell hloc (fun h₁ hns k => ?_)
  have X₁ : K.In h₁ := X.keeps k
  have hx₁ := k _ _ hx
  have hL : s.heap.objs.size < h₁.objs.size := hns.lt
  have xL : x < s.heap.objs.size := Heap.lt_size hx
  have hev : ∀ env : Env, eval (.Call (.Attribute (.Call (.Name "super" q1) [] [] q2) "__init__" q3) [.Name "at" q4] [] q5) env = (do
      let ov ← attributeBase (.Call (.Name "super" q1) [] [] q2) "__init__" env (eval (.Call (.Name "super" q1) [] [] q2) env)
      standAt q3.atName
      let (f, first) ← holding [ov] (getMethod ov "__init__" (L2.plainOf (.Call (.Name "super" q1) [] [] q2) env))
      callWith q5 f first (backTo q5 (starEach [.Name "at" q4] env)) []) := fun env => by
    rw [arm_eval_Call]
    have e : ∀ ov, methodCall (.Call (.Name "super" q1) [] [] q2) "__init__" q3 q5 env ov ([Expr.Name "at" q4].length + ([] : List Keyword).length) (backTo q5 (starEach [.Name "at" q4] env)) (backToKw q5 (keywordEach [] env)) = (do
      let (f, first) ← holding [ov] (getMethod ov "__init__" (L2.plainOf (.Call (.Name "super" q1) [] [] q2) env))
      callWith q5 f first (backTo q5 (starEach [.Name "at" q4] env)) []) := fun ov => L2.mcall_line rfl hline
    exact congrArg (fun t : Value → Sem Value => (attributeBase (.Call (.Name "super" q1) [] [] q2) "__init__" env (eval (.Call (.Name "super" q1) [] [] q2) env) >>= fun ov => standAt q3.atName >>= fun _ => t ov)) (funext e)
  refine ks_wpAt_execs_cons (ks_wpAt_Expr_any (ks_wpAt_MethodCall ?_ (hev _)) rfl rfl)
  refine ks_wpAt_super_base (fd := fnX "__init__" qual (iA p1 p2) (iB q1 q2 q3 q4 q5 q6 q7 q8 q9 q10) iS [("__class__", cc)] .none .none doc pm an (.ref cda) ct) (ar := { arg := "self", annotation := none, pos := p1 }) rfl rfl (by decide) rfl (X₁ _ _ ho) rfl rfl rfl (X₁ _ _ hcda) rfl hvs hfile T.htop ?_
  refine ks_loadName_global rfl rfl (loadGlobal_builtin (G.keeps k) T.msup (B.keeps k) ((BB _ (by decide +kernel)).trans (by decide +kernel : bootBuiltins "super" = some (.type "super"))) ⟨rfl, ?_⟩)
  refine wpAny_loadName_free rfl rfl rfl ⟨_, X₁ _ _ hcc, rfl⟩ ?_
  refine wpAny_loadName_local rfl rfl hns (by first | rfl | with_unfolding_all rfl | kernel_rfl) ?_
  have hD : ∃ oD, h₁.get? C = some oD ∧ oD.data = .cls { name := nm, bases := bs, mro := .ref C :: bm, ns := N, qualname := q, hasDict := true, slotNames := sn, subclasses := sub, abstract := ab, collection := col, hasDel := false } := ⟨_, X₁ _ _ hC, rfl⟩
  obtain ⟨oD, hD1, hD2⟩ := hD
  have xC : x ≠ C := fun z => by
    rw [z, hC] at hnx
    cases hnx
  refine ks_wpAny_isType_cls hD1 hD2 ⟨rfl, ?_⟩
  refine ks_wpAny_call_super hD1 hD2 hx₁ rfl (fun c e => by cases e) (looks_mroIn X₁ T.mC) (fun h₂ e₂ k₂ => ?_)
  have X₂ : K.In h₂ := X₁.keeps k₂
  have hx₂ := k₂ _ _ hx₁
  have I₂ : InstAt h₂ x (excO C t0) C none := ⟨hx₂, rfl, rfl, trivial⟩
  have hI : Looks (model prog w) h₂ (isInstance (.ref x) (.type "ValueError")) true := I₂.type.andThen (looks_subIn X₂ T.veC)
  have hsup := T.sup
  unfold ks_superIn at hsup
  rw [hcl] at hsup
  refine kxs_getMethod kxs_ValueError e₂ (looks_opaque X₂ T.opq) (l₀ := .ref C :: bm) (fun A Q E s k q => wpAny_bind ((looks_clsIn X₂ hcl) A _ E s k (wpAny_pure q))) rfl X₂ hsup hI xC (by decide) ?_
  refine kxs_callWith (i := "ValueError.__init__") (x := x) rfl ?_
  show wpAny _ _ (evalArgs _ true ((false, eval (.Name "at" q4) _) :: backTo q5 (starEach [] _)) []) _ _ _
  refine evalArgs_plain ?_
  have k₃ : ∀ b o, h₁.get? b = some o → (h₂.push (kxs_mw "ValueError.__init__" x)).get? b = some o := fun b o e => Heap.get?_push_of_some _ (k₂ b o e)
  refine Calls.spliced_cons (wpAny_Name (wpAny_loadName_local rfl rfl (hns.keeps k₃) (by first | rfl | with_unfolding_all rfl | kernel_rfl) ?_) (by decide))
  refine Calls.spliced_nil ⟨Heap.get?_push_size _ rfl, ?_⟩
  have X₃ := X₁.keeps k₃
  have hx₃ := k₃ _ _ hx₁
  refine wpAny_call (codeAny_of_tree ?_)
  show wpAny _ _ (callAny (.ref h₂.objs.size) ⟨[v], []⟩) _ _ _
  simp only [callAny]
  refine wpAny_bind (wpAny_load (Heap.get?_push_size _ rfl) ?_)
  simp only [kxs_mw, show (Value.type "method-wrapper" == Value.type "method" || Value.type "method-wrapper" == Value.type "builtin_function_or_method" || Value.type "method-wrapper" == Value.type "method-wrapper") = true by decide, if_true]
  refine KFB.if_so (by decide) ?_
  refine wpAny_bind (check_bound_init F.excBase_ValueError.toExcCallFacts (X₃ _ _ hC) hx₃ rfl ?_)
  refine wpAny_bind (wpAny_pure (wpAny_pure ?_))
  refine ⟨plainId_quiet F.excBase_ValueError.init.plain _, codeAny_builtin F.excBase_ValueError.initEntry ?_⟩
  refine exc_init_tree (cls := .ref C) (t0 := t0) (dv := none) (c2 := .none) (c3 := .none) (b4 := .bool false) hx₃ (one_size v) (fun h₄ k₄ hx₄ _ => ?_)
  have X₄ : K.In h₄ := kept_but X₃ hnx k₄
  have xLn : s.heap.objs.size ≠ x := Nat.ne_of_gt xL
  have hns₄ : h₄.Ns s.heap.objs.size (fun x_1 => List.lookup x_1 [(("self" : Str), Value.ref x), ("at", v)].reverse) := (hns.keeps k₃).at (fun o q => k₄ _ o xLn q)
  refine wpAt_of_wpAny (wpAny_execs_cons (plainObj_wpAny_Assign_Attribute ?_))
  refine wpAny_Name (wpAny_loadName_local rfl rfl hns₄ (by first | rfl | with_unfolding_all rfl | kernel_rfl) ?_) (by decide)
  refine wpAny_Name (wpAny_loadName_local rfl rfl hns₄ (by first | rfl | with_unfolding_all rfl | kernel_rfl) ?_) (by decide)
  refine set_plain X₄ (ox := excO C (h₂.push (kxs_mw "ValueError.__init__" x)).objs.size) (od := none) ⟨hx₄, rfl, rfl, trivial⟩ T.sa ?_
  refine exc_osa X₄ hx₄ hcl (show refsVE (.ref C :: bm) = true from hbm) rfl T.noN (fun h₅ tk₅ dx k₅ dn dne hx₅ hn₅ => ?_)
  refine wpAny_execs_nil (hq h₅ tk₅ dx _ ⟨fun b o hb e => k₅ b o hb (k₄ b o hb (k₃ b o (k b o e))), hx₅, ?_, dne, hn₅⟩)
  exact Nat.le_of_lt (Nat.lt_of_lt_of_le hns₄.lt dn)
theorem at_made (T : AtTxt prog K mg C fI) {v : Value} (X : K.In s.heap) (G : s.heap.Ns mainGlobals mg) (B : s.heap.Ns builtinsNs mb) (BB : ∀ x : Str, x ≠ "__name__" → mb x = bootBuiltins x) (hlim : s.heap.NoLimit) (hroom : A.depth + 1 < recursionLimit)
    (hq : ∀ h' tk e d, OwnMade s.heap h' e C d v → R (.ok (.ret (.ref e))) { s with heap := h', toks := tk }) :
    codeAny (model prog w) A (.call (.ref C) ⟨[v], []⟩) R s := by
  obtain ⟨nm, q, N, bs, bm, sn, sub, ab, col, dd, k0, k1, k2, k3, k5, hC, hbm⟩ := T.cls
  obtain ⟨hp, g, dr, tk, os⟩ := s
  have k : ∀ b o, hp.get? b = some o → ((hp.push (kdv_tup [v])).push (excO C hp.objs.size)).get? b = some o := fun b o e => Heap.get?_push_of_some _ (Heap.get?_push_of_some _ e)
  have hget : ((hp.push (kdv_tup [v])).push (excO C hp.objs.size)).get? (hp.objs.size + 1) = some (excO C hp.objs.size) := by heap_get
  have hnx : K.lookup (hp.objs.size + 1) = none := by
    cases e : K.lookup (hp.objs.size + 1) with
    | none => rfl
    | some o =>
      have z : hp.get? (hp.objs.size + 1) = some o := X _ _ e
      exact absurd (Nat.lt_of_succ_lt (Heap.lt_size z)) (Nat.lt_irrefl _)
  refine call_own F.excBase_ValueError (fun X => refsVE_contains X bm hbm) (X _ _ hC) (looks_findIn X T.iC) (fun self => bind_fn X self T.tC) (one_size v) ?_
  refine at_init (s := ⟨(hp.push (kdv_tup [v])).push (excO C hp.objs.size), g, dr, tk, os⟩) T (X.keeps k) (G.keeps k) (B.keeps k) BB (hlim.keeps k) hget hnx ?_ fun h' tk' dx t1 ⟨k', hx, dn, dne, hns⟩ => ?_
  · show A.depth + 1 < recursionLimit
    exact hroom
  · have old : ∀ b o, hp.get? b = some o → h'.get? b = some o := fun b o e => k' b o (Nat.ne_of_lt (Nat.lt_succ_of_lt (Heap.lt_size e))) (k b o e)
    have z : hp.objs.size + 1 + 1 ≤ dx := by
      first
        | (simpa only [Heap.size_push] using dn)
        | exact dn
        | (have q := dn; rw [Heap.size_push, Heap.size_push] at q; exact q)
    exact ⟨rfl, hq h' tk' (hp.objs.size + 1) dx ⟨old, Nat.le_succ _, ⟨_, _, hx, rfl, rfl, rfl, rfl⟩, Nat.le_trans (Nat.le_trans (Nat.le_succ _) (Nat.le_succ _)) z, dne, hns⟩⟩
end
end HX
end PySem
namespace L2
open PySem PySem.Spec PyProof.Rows
theorem relO_at {v : V} {v' : Value} (r : RelV v v') (f : Str) : RelO (List.lookup f [(("at" : Str), v)]) (if f = "at" then some v' else none) := by
  by_cases hw : f = "at"
  · subst hw
    rw [if_pos rfl]
    have q : List.lookup ("at" : Str) [(("at" : Str), v)] = some v := by simp [List.lookup]
    rw [q]
    exact r
  · rw [if_neg hw]
    have qw : (f == ("at" : Str)) = false := by simpa using hw
    have q2 : List.lookup f [(("at" : Str), v)] = none := by simp [List.lookup, qw]
    rw [q2]
    trivial
section
variable {X : Cx} {C fI : Addr}
/-- C(e) -/
def tMkAt (C : Addr) (ta : TA) : St → Hp → XK → Prop := fun σ H Q => ta σ H fun vs H1 => ∃ v, vs = [v] ∧ ∀ d, H1 d = none → Q (.ref C) (some d) (upd H1 d (.xd [(("at" : Str), v)]))
theorem pmk_at {x : Str} {a : Expr} {ta : TA} {p pos : Pos} {k : Nat} (T : PySem.HX.AtTxt X.prog X.K X.mg C fI) (hm : X.mg x = some (.ref C)) (hr : Room k X.A) (ha : PA X [a] ta) (hg : Gl X x := by rfl) (hdb : (x == ("__debug__" : Str)) = false := by decide)
    (he : starEach (a :: []) X.env = (false, eval a X.env) :: starEach [] X.env := by rfl) (hpl : (backTo pos (starEach [] X.env)).any (·.1) = false := by rfl) :
    PMk X (.Call (.Name x p) [a] [] pos) (tMkAt C ta) := by
  intro pins s σ H Q I h
  refine wpAny_Call_Name_kw (ld_glob I hg hm ?_ hdb)
  refine PySem.W.callWith_K (h₀ := X.base) I.ok.mod.kin T.kC (thn (ha.run pos pins s σ H _ I h) fun us s1 hh => ?_) he hpl
  obtain ⟨vs, H1, I1, r1, v, ev, q1⟩ := hh
  subst ev
  refine ⟨I1.kIn, ?_⟩
  cases r1 with
  | cons rv rn =>
    rename_i v' us'
    cases rn
    show wpAny _ _ (call (.ref C) [v']) _ _ _
    have hlim := I1.nolimit
    have hG := I1.ok.mod.glob.keeps I1.bk
    obtain ⟨mb, hB0, hBB⟩ := I1.ok.mod.blt
    have hB := hB0.keeps I1.bk
    obtain ⟨hp, g, dr, tk, os⟩ := s1
    refine wpAny_call (PySem.HX.at_made T I1.kIn hG hB hBB hlim (by have := hr.dp; omega) fun h' tk' e d M => ?_)
    show MkP X pins σ Q (.ref e) ⟨h', g, dr, tk', os⟩
    obtain ⟨oe, fv, hoe, hc, hd, hdat, h1⟩ := M.obj
    have hns := M.ns
    obtain ⟨G', g1, g2⟩ := restrict h' fun b => decide (b ≠ e)
    have gk : ∀ b, b ≠ e → G'.get? b = h'.get? b := fun b hb => g1 b (decide_eq_true hb)
    have ge : G'.get? e = none := g2 e (by simp)
    have old : ∀ b o, hp.get? b = some o → G'.get? b = some o := fun b o q => (gk b (Nat.ne_of_lt (Nat.lt_of_lt_of_le (Heap.lt_size q) M.new))).trans (M.keep b o q)
    have ob : ObjOk X.prog X.w (upd H1 d (.xd [(("at" : Str), v)])) G' d (.xd [(("at" : Str), v)]) :=
      ⟨_, hns.at (fun o q => (gk d M.dne).trans q), fun f => relO_at rv f⟩
    have J : Inv X pins σ (upd H1 d (.xd [(("at" : Str), v)])) ⟨G', g, dr, tk', os⟩ := I1.laid (t' := tk') old M.dbig ob
    refine ⟨e, oe, fv, ⟨G', g, dr, tk', os⟩, _, .ref C, some d, rfl, J, fun b o q => ?_, ge, hoe, ⟨hc, hd⟩, hdat, h1, ?_, rfl, I1.bare, raises_own T.exC T.tyC, q1 d (I1.hok.fresh M.dbig)⟩
    · by_cases hb : b = e
      · have q' : G'.get? b = some o := q
        rw [hb, ge] at q'; cases q'
      · exact (gk b hb).symm.trans q
    · rw [upd_ne (Ne.symm M.dne)]
      exact I1.hok.fresh M.new
/-- raise C(e) -/
def tRaiseAt (C : Addr) (W : WX) (ta : TA) : TS := fun _ σ H => tMkAt C ta σ H fun cls d H' => W cls d σ H'
theorem ps_raiseAt {x : Str} {a : Expr} {ta : TA} {W : WX} {p pos pos2 : Pos} {k : Nat} (hc : X.calm = true) (T : PySem.HX.AtTxt X.prog X.K X.mg C fI) (hm : X.mg x = some (.ref C)) (hr : Room k X.A) (tk : Takes X W) (ha : PA X [a] ta) (hg : Gl X x := by rfl) (hdb : (x == ("__debug__" : Str)) = false := by decide)
    (he : starEach (a :: []) X.env = (false, eval a X.env) :: starEach [] X.env := by rfl) (hpl : (backTo pos (starEach [] X.env)).any (·.1) = false := by rfl) :
    PS X (.Raise (some (.Call (.Name x p) [a] [] pos)) none pos2) (tRaiseAt C W ta) := ps_raise hc tk (pmk_at T hm hr ha hg hdb he hpl)
/-- e.at, e the exception that the suite holds (at a; its class cls, its dict d) -/
def tByAt (C : Addr) (a : Addr) (cls : Value) (d : Option Addr) (te : TE) : TE := fun σ H Q => te σ H fun x H1 => x = .ref a ∧ cls = .ref C ∧ ∃ (dd : Addr) (v : V), d = some dd ∧ H1 dd = some (.xd [(("at" : Str), v)]) ∧ Q v H1
theorem pe_byAt {a : Addr} {oe : Obj} {cls : Value} {d : Option Addr} {pn : List (Addr × Obj)} {e : Expr} {te : TE} {pos : Pos} (T : PySem.HX.AtTxt X.prog X.K X.mg C fI) (hz : Zc cls d oe) (hf : ∃ vs, oe.data = .fields vs) (he : PE (X.suite a ((a, oe) :: pn)) e te)
    (hb : attributeBase e "at" X.env (eval e X.env) = eval e X.env := by rfl) :
    PE (X.suite a ((a, oe) :: pn)) (.Attribute e "at" pos) (tByAt C a cls d te) := by
  refine ⟨fun pins s σ H Q I h => ?_⟩
  refine attr_of hb (thn (he.run pins s σ H _ I h) fun u s1 hh => ?_)
  obtain ⟨x, H1, I1, rx, ex, ec, dd, v, ed, ea, q⟩ := hh
  subst ex
  obtain rfl : u = Value.ref a := rx
  subst ec
  subst ed
  obtain ⟨ha, _⟩ := I1.pin (a, oe) (List.mem_append_left _ List.mem_cons_self)
  obtain ⟨vs, hd⟩ := hf
  have hx : ObjOk X.prog X.w H1 s1.heap dd (.xd [(("at" : Str), v)]) := I1.hok dd _ ea
  obtain ⟨mA, hns, hr⟩ := hx
  obtain ⟨od, ho, hl⟩ := lookIn_ns hns
  have l : List.lookup ("at" : Str) [(("at" : Str), v)] = some v := by simp [List.lookup]
  obtain ⟨u, hu, ru⟩ := RelO.some_of (v := v) (o := mA "at") (by rw [← l]; exact hr "at")
  have J : PySem.W.InstAt s1.heap a oe C (some od) := ⟨ha, hz.1, by unfold PySem.W.notCls; rw [hd] <;> rfl, by rw [hz.2]; exact ho⟩
  exact HandSPX.exc_get I1.kIn J T.ga T.gg T.exC (PySem.W.findObj_own T.hdC T.noN rfl (by rw [hl, hu])) (handed_of ru) ⟨v, H1, I1.tok _, ru, q⟩
end
end L2

/-! ### several clauses, each with a name: «except C as n: ..», one behind the other -/
namespace L2
open PySem PySem.Spec PyProof.Rows
/-- one clause: the class, the slot of the name, the suite's reading -/
abbrev Cl := Value × Nat × (Addr → Value → Option Addr → TS)
/-- behind a clause's suite the slot of its name is empty -/
def Ends.drop (D : Ends) (i : Nat) : Ends := { nx := fun σ H => D.nx (σ.set i none) H, rt := D.rt, bk := fun σ H => D.bk (σ.set i none) H, ct := fun σ H => D.ct (σ.set i none) H }
/-- what the clauses wish of an exception, one after the other -/
def wManyA (K : PySem.W.Frag) (Wout : WX) (D : Ends) : List Cl → WX
  | [] => Wout
  | (c, i, ts) :: r => fun cls d σ H => ∃ b, PySem.W.exmOne K cls c = some b ∧ (b = true → ∀ a, H a = none → ts a cls d (D.drop i) (σ.set i (some (.ref a))) H) ∧ (b = false → wManyA K Wout D r cls d σ H)
inductive HdsA (X : Cx) : List ExceptHandler → List Cl → Prop
  | nil : HdsA X [] []
  | cons {x n : Str} {i : Nat} {c : Value} {ts : Addr → Value → Option Addr → TS} {b0 : Stmt} {su : List Stmt} {np p : Pos} {hds : List ExceptHandler} {l : List Cl} (nd : X.N.Nodup) (ni : X.N[i]? = some n) (nl : X.env.kindOf n = some .local) (nm : Names X x c)
      (hsu : ∀ (a : Addr) (oe : Obj) (cls : Value) (d : Option Addr) (pn : List (Addr × Obj)), Zc cls d oe → (∃ vs, oe.data = .fields vs) → PSs (X.suite a ((a, oe) :: pn)) (b0 :: su) (ts a cls d)) (r : HdsA X hds l) :
      HdsA X (.ExceptHandler (some (.Name x np)) (some n) (b0 :: su) p :: hds) ((c, i, ts) :: l)
/-- an exception at a stands in the heap hp, let go of by the frames; sI: the state without it -/
structure Down (X : Cx) (pins : List (Addr × Obj)) (σ : St) (H : Hp) (cls : Value) (d : Option Addr) (a : Addr) (B : Heap) (sI s : Shared) (hp : Heap) : Prop where
  inv : Inv X pins σ H sI
  low : ∀ b o, sI.heap.get? b = some o → b ∉ frs X.stack → B.get? b = some o
  ups : sI.heap.UpToSlots hp
  fly : HandSPX.FlyingZ B (X.env :: X.outer) a (Zc cls d) hp
  out : H a = none
  oss : s.os = sI.os
  ags : AllBare s.gens
section
variable {X : Cx} {pins : List (Addr × Obj)} {σ : St} {H : Hp} {cls : Value} {d : Option Addr} {a : Addr} {B : Heap} {sI s : Shared} {hp : Heap}
theorem Down.here (Z : Down X pins σ H cls d a B sI s hp) : Inv X pins σ H { s with heap := hp } := Z.inv.landed Z.low Z.fly.1 Z.ups Z.oss Z.ags
theorem Down.notFrame (Z : Down X pins σ H cls d a B sI s hp) (hf : X.env.frame = some X.env.locals) : a ≠ X.env.locals ∧ a ∉ X.fs := by
  obtain ⟨o, vs, e1, _, e3⟩ := Z.fly.there
  have no : ∀ en ∈ X.env :: X.outer, en.frame ≠ some a := fun en hen q => by
    obtain ⟨_, o', e', no⟩ := Z.fly.2.2.1.mem (List.mem_filterMap.mpr ⟨en, hen, q⟩ : a ∈ frs (X.env :: X.outer))
    rw [e1] at e'
    cases e'
    exact no _ e3
  refine ⟨fun q => no X.env List.mem_cons_self (by rw [hf, q]), fun q => ?_⟩
  obtain ⟨en, hen, qe⟩ := List.mem_filterMap.mp q
  exact no en (List.mem_cons_of_mem _ hen) qe
/-- in the suite of a clause the exception is pinned -/
theorem Down.suite (Z : Down X pins σ H cls d a B sI s hp) (hf : X.env.frame = some X.env.locals) : ∃ oe, Zc cls d oe ∧ (∃ vs, oe.data = .fields vs) ∧ Inv (X.suite a ((a, oe) :: (X.pn ++ pins))) [] σ H { s with heap := hp } := by
  obtain ⟨oe, vs, e1, e2, e3⟩ := Z.fly.there
  exact ⟨oe, e2, ⟨vs, e3⟩, Z.here.suite e1 e3 Z.out (Z.notFrame hf).1 (Z.notFrame hf).2⟩
/-- the class that a clause names is looked up -/
theorem Down.named {x : Str} {c : Value} {np : Pos} {Q E : Value → Shared → Prop} (Z : Down X pins σ H cls d a B sI s hp) (hf : X.env.frame = some X.env.locals) (nm : Names X x c) (q : Q c { s with heap := hp }) :
    wpAny (model X.prog X.w) (X.A.mark (some (.ref a))) (eval (.Name x np) X.env) Q E { s with heap := hp } := by
  obtain ⟨oe, _, _, S⟩ := Z.suite hf
  rcases nm with ⟨g, nd, m | ⟨m, v, nn⟩⟩
  · exact ld_glob S g m q nd
  · exact ld_blt S g m v q nn nd
/-- no clause takes it: it flies on -/
theorem Down.on {D : Ends} {Wout : WX} (Z : Down X pins σ H cls d a B sI s hp) (hs : X.stack = X.env :: X.outer) (hf : X.env.frame = some X.env.locals) (tk : Takes X Wout) (w : Wout cls d σ H) :
    wpAny (model X.prog X.w) X.A (handleBy (.ref a) X.env []) (SP X pins D) X.xe { s with heap := hp } := by
  refine wpAny_handleBy_nil ?_
  have up : wpAny (model X.prog X.w) X.A (setFlight (.ref a) X.env.frame) (fun _ s4 => wpAny (model X.prog X.w) X.A (throw (.ref a) : Sem Flow) (SP X pins D) X.xe s4) X.xe { s with heap := hp } := by
    rw [hf]
    exact HandSPX.setFlight_upZ Z.fly fun h4 held up4 => wpAny_throw (tk _ _ ⟨a, B, sI, pins, σ, H, cls, d, rfl, Z.inv, Z.low, Z.ups.trans up4, .inr (.inr (by rw [hs]; exact held)), Z.out, Z.oss, Z.ags, w⟩)
  obtain ⟨_, _, _, oe, vs, T, _, _, he, _, hd, h1, _⟩ := id Z.fly
  unfold PySem.passOn
  refine wpAny_bind (wpAny_field he hd h1 ?_)
  rw [if_neg (by simp : ¬ ((Value.ref T == Value.none) = true))]
  first
    | exact wpAny_bind (wpAny_pure (wpAny_bind up))
    | exact wpAny_bind up
theorem Down.clauses {D : Ends} {Wout : WX} {hds : List ExceptHandler} {l : List Cl} (k : HdsA X hds l) (Z : Down X pins σ H cls d a B sI s hp) (hs : X.stack = X.env :: X.outer) (hf : X.env.frame = some X.env.locals) (tk : Takes X Wout) (w : wManyA X.K Wout D l cls d σ H) :
    wpAny (model X.prog X.w) X.A (handleBy (.ref a) X.env hds) (SP X pins D) X.xe { s with heap := hp } := by
  induction k with
  | nil => exact Z.on hs hf tk w
  | @cons x n i c ts b0 su np p hds l nd ni nl nm hsu r ih =>
    obtain ⟨b, eb, yes, no⟩ := w
    refine wpAny_handleBy_cons (codeAny_handlers_test (Z.named hf nm ?_)) (by intro q; cases q)
    obtain ⟨oe, vs, e1, e2, e3⟩ := Z.fly.there
    refine (PySem.W.exm_one (M := model X.prog X.w) Z.here.kIn (fun A Q E s k q => wpAny_typeOf_ref (k _ _ e1) (by rw [e2.1]; exact q)) eb).here ?_
    cases b with
    | false => exact ih (no rfl)
    | true =>
      refine codeAny_handlers_suite_as (HandSPX.lands_againZ Z.fly fun h4 fl4 up4 => ?_)
      have Z4 : Down X pins σ H cls d a B sI s h4 := ⟨Z.inv, Z.low, Z.ups.trans up4, fl4, Z.out, Z.oss, Z.ags⟩
      obtain ⟨oe4, z4, f4, S4⟩ := Z4.suite hf
      refine store_ok (X := X.suite a ((a, oe4) :: (X.pn ++ pins))) (v := .ref a) S4 nd ni (.inl nl) rfl (fun s5 S5 => ?_) (.inr nl)
      refine wpAny_mono ((hsu a oe4 cls d (X.pn ++ pins) z4 f4).run [] s5 _ H _ S5 (yes rfl a Z.out)) (fun f s6 sp => ?_) (fun _ _ z => z.elim)
      have ok := Z.inv.ok
      cases f with
      | ret u =>
        obtain ⟨v6, σ6, H6, S6, r6, q6⟩ := sp
        exact gone_ok (S6.unsuite ok) nd ni nl fun s7 J => ⟨v6, _, _, J, r6, q6⟩
      | next =>
        obtain ⟨σ6, H6, S6, q6⟩ := sp
        exact gone_ok (S6.unsuite ok) nd ni nl fun s7 J => ⟨_, _, J, q6⟩
      | brk =>
        obtain ⟨σ6, H6, S6, q6⟩ := sp
        exact gone_ok (S6.unsuite ok) nd ni nl fun s7 J => ⟨_, _, J, q6⟩
      | cont =>
        obtain ⟨σ6, H6, S6, q6⟩ := sp
        exact gone_ok (S6.unsuite ok) nd ni nl fun s7 J => ⟨_, _, J, q6⟩
end
section
variable {X : Cx} {body : List Stmt} {h0 : ExceptHandler} {hds : List ExceptHandler} {l : List Cl} {pos : Pos} {tb : WX → TS} {Wout : WX}
theorem ps_try_manyA (hs : X.stack = X.env :: X.outer) (hf : X.env.frame = some X.env.locals) (tk : Takes X Wout)
    (hb : ∀ (W : WX) (pn : List (Addr × Obj)) (xe : Value → Shared → Prop), Takes (X.tr pn xe) W → PassesOwn (model X.prog X.w) X.A X.env xe → PSs (X.tr pn xe) body (tb W)) (hh : HdsA X (h0 :: hds) l) :
    PS X (.Try body (h0 :: hds) [] [] pos) (fun D σ H => tb (wManyA X.K Wout D l) D σ H) := by
  constructor
  intro pins s σ H D I h
  have ok := I.ok
  let after : Value → Shared → Prop := fun e s₁ => wpAny (model X.prog X.w) X.A (noteFrame e X.env) (fun _ s₂ => wpAny (model X.prog X.w) X.A (setFlight e none) (fun _ s₃ => wpAny (model X.prog X.w) X.A (handleBy e X.env (h0 :: hds)) (SP X pins D) X.xe s₃) X.xe s₂) X.xe s₁
  have tk' : Takes (X.tr (X.pn ++ pins) after) (wManyA X.K Wout D l) := by
    intro u s' xx
    obtain ⟨a, B, sI, pins', σ', H', cls, d, rfl, J, low, ups, sky, out, oss, ags, w⟩ := xx
    refine Sky.land (L := X.env.locals) Zc.steady (ok.frames.trans (congrArg some hs)) hf (by rw [← hs]; exact sky) fun h3 fl3 up3 => ?_
    exact Down.clauses hh ⟨J.ofTry ok, low, ups.trans up3, fl3, out, oss, ags⟩ hs hf tk w
  refine wpAny_Try_except (wpAny_mono ((hb _ _ after tk' PassesOwn.looking).run [] s σ H D (I.toTry _) h) (fun f s1 sp => ?_) (fun _ _ he => he))
  cases f with
  | next => exact wpAny_execs_nil (let ⟨σ1, H1, J, q⟩ := sp; ⟨σ1, H1, J.ofTry ok, q⟩)
  | brk => exact let ⟨σ1, H1, J, q⟩ := sp; ⟨σ1, H1, J.ofTry ok, q⟩
  | cont => exact let ⟨σ1, H1, J, q⟩ := sp; ⟨σ1, H1, J.ofTry ok, q⟩
  | ret u => exact let ⟨v, σ1, H1, J, r, q⟩ := sp; ⟨v, σ1, H1, J.ofTry ok, r, q⟩
end
end L2
set_option Elab.async false
set_option linter.all false
set_option maxRecDepth 100000
set_option maxHeartbeats 4000000
/-! what several defs of this package want: bundled callees, heaps, data, a few more rules -/
namespace PySem
namespace HU
open PySem.W PySem.Calls PyProof.Rows
/-- list.extend(tuple), whatever dict and slots the tuple has -/
theorem extend_tup (l : Addr) (items : Array Value) (n : Nat) (b : Addr) (items2 : Array Value) (n2 : Nat) (dd : Option Addr) (sl : Array (Option Value)) (door : ¬(!items.isEmpty && Builtin.List.listTooLong (items.size + items2.size)) = true) (fits : items.size ≤ sizeLine) (both : items.size + items2.size ≤ sizeLine + 1) :
    Meets (Builtin.«list.extend» ⟨[.ref l, .ref b], []⟩) (fun _ R s => s.heap.get? l = some { cls := .type "list", dict := none, data := .seq items n, slots := #[] } ∧ s.heap.get? b = some { cls := .type "tuple", dict := dd, data := .seq items2 n2, slots := sl } ∧ R (.ok (.ret Value.none)) { s with heap := s.heap.update l (Obj.mapSeq fun x => x ++ items2), toks := s.toks }) :=
  .of_wp fun prog w A R s h => by
    obtain ⟨hp, g, d, tk, os⟩ := s
    obtain ⟨hl, hb, h⟩ := h
    have a1 := AutoSeq1.idx_int
    have a2 := AutoSeq1.sub_tuple_tuple
    have a3 := AutoSeq1.sub_list_list
    have a4 := AutoSeq1.sub_tuple_list
    have a5 := AutoSeq1.sub_list_tuple
    have sz : (items ++ items2).size ≤ sizeLine + 1 := by
      rw [Array.size_append]
      exact both
    wp_walk using (wpAny_updateSeq hl rfl (hz := fits) (_hz' := sz)), AutoSeq1.wpAny_loadPart' hl, AutoSeq1.wpAny_loadPart' hb
    exact ⟨_, rfl, h⟩
end HU
end PySem
namespace L2
open PySem PySem.Spec PyProof.Rows
section
variable {X : Cx}
def rExtT (K : PySem.W.Frag) : V → List V → Hp → VK → Prop := fun x vs H Q => ∃ l b xs zs, x = .ref l ∧ vs = [.ref b] ∧ H l = some (.lst xs) ∧ SqT K H b zs ∧ xs.length + zs.length ≤ sizeLine ∧ Q .non (upd H l (.lst (xs ++ zs)))
theorem mt_extT : MtM X "list.extend" (rExtT X.K) := by
  intro pins s σ H x vs v us Q I rx rv h
  obtain ⟨l, b, xs, zs, rfl, rfl, hH, hB, hz, q⟩ := h
  cases rx
  obtain ⟨u, rfl, ru⟩ := rv.one
  cases ru
  obtain ⟨z, its, n, r, hl, e⟩ := I.lstM hH
  obtain ⟨its2, r2, ⟨o2, e2, c2, n2, d2⟩, z2⟩ := I.tuple hB
  have hl2 := r2.length
  obtain ⟨cl2, dd2, da2, sl2⟩ := o2
  simp only at c2 d2
  subst c2
  subst d2
  have hsz : its.toArray.size + its2.toArray.size ≤ sizeLine := by rw [List.size_toArray, List.size_toArray]; omega
  refine call_meets F.slot_list_extend ⟨_, e, rfl⟩ F.entry_list_extend (F.args_list_extend_2 _ _) (PySem.HU.extend_tup l its.toArray n b its2.toArray n2 dd2 sl2 (by rw [notLongL hsz, Bool.and_false]; exact Bool.false_ne_true) (by omega) (by omega)) ⟨e, e2, ?_⟩
  exact ⟨.non, _, I.lset (its' := its ++ its2) (ys := xs ++ zs) (f := fun x => x ++ its2.toArray) hH e (by simp) (r.append r2) (by rw [List.length_append]; exact hz), rfl, q⟩
/-! ### == and != with an empty list, an empty tuple, a tuple of one text -/
theorem range_all_zero (e : Nat → Bool) : (List.range 0).all e = true := rfl
def rEqNil (K : PySem.W.Frag) : R2 := fun x y H Q => ∃ a b xs, x = .ref a ∧ y = .ref b ∧ SqL K H a xs ∧ SqL K H b [] ∧ Q (.bl xs.isEmpty) H
def rNeNil (K : PySem.W.Frag) : R2 := fun x y H Q => ∃ a b xs, x = .ref a ∧ y = .ref b ∧ SqL K H a xs ∧ SqL K H b [] ∧ Q (.bl (!xs.isEmpty)) H
theorem plain_is {h : Heap} {a : Addr} {its : Array Value} (p : PlainL h a its) : h.IsList a its := let ⟨o, n, e1, e2, _, e3⟩ := p; ⟨o, e1, e2, n, e3⟩
theorem op_eqNil (hu : X.A.units < cLine) : OpR X (compareOp .Eq) (rEqNil X.K) := by
  intro pins s σ H x y v u Q I rx ry h
  obtain ⟨a, b, xs, rfl, rfl, ha, hb, q⟩ := h
  cases rx
  cases ry
  obtain ⟨ia, ra, pa, za⟩ := I.list ha
  obtain ⟨ib, rb, pb, zb⟩ := I.list hb
  have eb : ib = [] := by cases rb; rfl
  subst eb
  have la := ra.length
  cases xs with
  | nil =>
    have ea : ia = [] := by cases ra; rfl
    subst ea
    exact SeqAt.eq_listAt (e := fun _ => true) (plain_is pa) (plain_is pb) rfl hu (fun j h1 h2 => by simp at h1) ⟨.bl true, H, I, rfl, q⟩
  | cons x r =>
    refine SeqAt.eq_list_lengthsAt (plain_is pa) (plain_is pb) ?_ hu ⟨.bl false, H, I, rfl, q⟩
    rw [List.size_toArray, ← la]
    rfl
theorem op_neNil (hu : X.A.units < cLine) : OpR X (compareOp .NotEq) (rNeNil X.K) := by
  intro pins s σ H x y v u Q I rx ry h
  obtain ⟨a, b, xs, rfl, rfl, ha, hb, q⟩ := h
  cases rx
  cases ry
  obtain ⟨ia, ra, pa, za⟩ := I.list ha
  obtain ⟨ib, rb, pb, zb⟩ := I.list hb
  have eb : ib = [] := by cases rb; rfl
  subst eb
  have la := ra.length
  cases xs with
  | nil =>
    have ea : ia = [] := by cases ra; rfl
    subst ea
    exact SeqAt.RcNeAt.lists (e := fun _ => true) (plain_is pa) (plain_is pb) rfl hu (fun j h1 h2 => by simp at h1) _ _ _ _ ⟨.bl false, H, I, rfl, q⟩
  | cons x r =>
    refine SeqAt.RcNeAt.lists_lengths (plain_is pa) (plain_is pb) ?_ hu _ _ _ _ ⟨.bl true, H, I, rfl, q⟩
    rw [List.size_toArray, ← la]
    rfl
/-- a tuple == () -/
def rEqNilT (K : PySem.W.Frag) : R2 := fun x y H Q => ∃ a b xs, x = .ref a ∧ y = .ref b ∧ SqT K H a xs ∧ SqT K H b [] ∧ Q (.bl xs.isEmpty) H
theorem tup_is {h : Heap} {a : Addr} {its : Array Value} (p : IsTup h a its) : h.IsTuple a its := let ⟨o, e1, e2, n, e3⟩ := p; ⟨o, e1, e2, n, e3⟩
theorem op_eqNilT (hu : X.A.units < cLine) : OpR X (compareOp .Eq) (rEqNilT X.K) := by
  intro pins s σ H x y v u Q I rx ry h
  obtain ⟨a, b, xs, rfl, rfl, ha, hb, q⟩ := h
  cases rx
  cases ry
  obtain ⟨ia, ra, pa, za⟩ := I.tuple ha
  obtain ⟨ib, rb, pb, zb⟩ := I.tuple hb
  have eb : ib = [] := by cases rb; rfl
  subst eb
  refine SeqAt.eq_tupleAt (e := fun _ => true) (tup_is pa) (tup_is pb) hu (fun j h1 h2 => by simp at h2) ⟨.bl xs.isEmpty, H, I, ?_, q⟩
  cases ra <;> rfl
/-- a tuple that begins with a text == (text,) -/
def rEqOneT (K : PySem.W.Frag) : R2 := fun x y H Q => ∃ a b z r t, x = .ref a ∧ y = .ref b ∧ SqT K H a (.str z :: r) ∧ SqT K H b [.str t] ∧ Q (.bl (decide (z = t) && r.isEmpty)) H
theorem op_eqOneT (hu : X.A.units < cLine) : OpR X (compareOp .Eq) (rEqOneT X.K) := by
  intro pins s σ H x y v u Q I rx ry h
  obtain ⟨a, b, z, r, t, rfl, rfl, ha, hb, q⟩ := h
  cases rx
  cases ry
  obtain ⟨ia, ra, pa, za⟩ := I.tuple ha
  obtain ⟨ib, rb, pb, zb⟩ := I.tuple hb
  cases ra with
  | cons r1 rr =>
    obtain ⟨k1, rfl⟩ := r1
    cases rb with
    | cons r2 rr2 =>
      obtain ⟨k2, rfl⟩ := r2
      cases rr2
      rename_i us
      refine SeqAt.eq_tupleAt (e := fun _ => (z == t)) (tup_is pa) (tup_is pb) hu (fun j h1 h2 => ?_) ⟨.bl _, H, I, ?_, q⟩
      · have h2 : j < 1 := h2
        obtain rfl : j = 0 := by omega
        exact SeqAt.EqAt.str_str z k1 t k2
      · show Value.bool _ = Value.bool _
        have e : (decide (z = t)) = (z == t) := by
          by_cases c : z = t
          · rw [decide_eq_true c, beq_iff_eq.mpr c]
          · rw [decide_eq_false c, beq_eq_false_iff_ne.mpr c]
        rw [e]
        cases rr with
        | nil => simp
        | cons _ _ => simp
end
end L2

/-! ### callees, bundled -/
namespace L2
open PySem PySem.Spec PyProof.Rows
/-- the def that the module's name x stands for keeps the promise sp, by at most level k -/
def Cal (P : Program) (w : World) (K : PySem.W.Frag) (mg : Str → Option Value) (base : Heap) (CX : CXT) (x : Str) (k : Nat) (ps : List Str) (sp : Sp) : Prop :=
  ∃ (f : Addr) (fd : FuncData), mg x = some (.ref f) ∧ PySem.W.keepIn K (.ref f) = true ∧ Binds K fd ps [] ∧ FnOk P w K mg base CX k f fd ps sp ∧ ∃ oc od sl, K.lookup f = some ⟨oc, od, .func fd, sl⟩
/-- the same, called by keywords ks alone: gV puts their values in the parameters' order -/
def CalK (P : Program) (w : World) (K : PySem.W.Frag) (mg : Str → Option Value) (base : Heap) (CX : CXT) (x : Str) (k : Nat) (ps ks : List Str) (gV : List V → List V) (sp : Sp) : Prop :=
  ∃ (f : Addr) (fd : FuncData) (gU : List Value → List Value), mg x = some (.ref f) ∧ PySem.W.keepIn K (.ref f) = true ∧ KBn K fd ps 0 ks (fun _ ws => gU ws) (fun _ zs => gV zs) ∧ FnOk P w K mg base CX k f fd ps sp
section
variable {P : Program} {w : World} {K : PySem.W.Frag} {mg : Str → Option Value} {base : Heap} {CX : CXT} {x : Str} {j k : Nat} {ps : List Str} {sp sp' : Sp}
theorem Cal.mono (C : Cal P w K mg base CX x j ps sp) (h : j ≤ k) : Cal P w K mg base CX x k ps sp := let ⟨f, fd, a, b, c, e, l⟩ := C; ⟨f, fd, a, b, c, e.mono h, l⟩
theorem Cal.imp (C : Cal P w K mg base CX x k ps sp) (h : ∀ vs H Q E, sp' vs H Q E → sp vs H Q E) : Cal P w K mg base CX x k ps sp' := let ⟨f, fd, a, b, c, e, l⟩ := C; ⟨f, fd, a, b, c, e.imp h, l⟩
/-- nothing is asked of a def whose promise asks what can't be -/
theorem fn_never {f : Addr} {fd : FuncData} (no : ∀ vs H Q E, ¬ sp vs H Q E) : FnOk P w K mg base CX k f fd ps sp :=
  ⟨fun vs H Q E h => absurd h (no vs H Q E), fun A outer s H args us vs Q E _ _ _ _ h => absurd h (no vs H Q E)⟩
end
/-- a def's binding by keywords is the function object's own -/
theorem Cal.kw {P : Program} {w : World} {K : PySem.W.Frag} {mg : Str → Option Value} {base : Heap} {CX : CXT} {x : Str} {k : Nat} {ps ks : List Str} {sp : Sp} {gV : List V → List V} (C : Cal P w K mg base CX x k ps sp) {f : Addr} {fd : FuncData} {qual : Str} {params : Arguments} {body : List Stmt} {scope : Scope}
    (hm : mg x = some (.ref f)) (F : FunD K x qual params body scope [] [] f fd) (gU : List Value → List Value) (rel : ∀ {zs : List V} {ws : List Value}, Vals zs ws → Vals (gV zs) (gU ws))
    (h : ∀ (kV doc pm : Value) (an : Option Addr) (cdv ct : Value) (ws : List Value), ws.length = ks.length → bindArgs (PySem.W.fnOf x qual params body scope .none kV doc pm an cdv ct) ⟨[], ks.zip ws⟩ = pure (ps.zip (gU ws))) : CalK P w K mg base CX x k ps ks gV sp := by
  obtain ⟨f', fd', hm', hk, _, G, oc', od', sl', lk'⟩ := C
  rw [hm] at hm'
  cases hm'
  obtain ⟨oc, od, dV, kV, doc, pm, an, cdv, ct, osl, e1, lk, _, hd, _⟩ := F.ex
  rw [lk] at lk'
  cases lk'
  subst e1
  refine ⟨f, _, gU, hm, hk, ⟨fun s us ws _ h1 h2 => ?_, fun _ r => rel r⟩, G⟩
  rcases hd with ⟨_, hd⟩ | ⟨hd, _⟩
  · subst hd
    have e0 : us = [] := List.eq_nil_of_length_eq_zero h1
    subst e0
    exact .of_eq (h kV doc pm an cdv ct ws h2)
  · exact absurd rfl hd
section
variable {X : Cx} {CX : CXT} {k : Nat} {ps : List Str} {sp : Sp} {E : XK} {x : Str} {p pos : Pos} {e : Expr} {es : List Expr} {kws : List Keyword} {t tk : TA}
theorem pe_c (C : Cal X.prog X.w X.K X.mg X.base CX x k ps sp) (hr : Room k X.A) (hx : Passes CX X E) (ha : PA X (e :: es) t) (hg : Gl X x := by rfl) (hdb : (x == ("__debug__" : Str)) = false := by decide)
    (he : starEach (e :: es) X.env = (false, eval e X.env) :: starEach es X.env := by rfl) (hpl : (backTo pos (starEach es X.env)).any (·.1) = false := by rfl) :
    PE X (.Call (.Name x p) (e :: es) [] pos) (tCall sp [] E t) := by
  obtain ⟨f, fd, hm, hk, hb, F, _⟩ := C
  exact pe_call F hr hg hm hk hb .nil hx ha hdb he hpl
/-- f(k = e, ..): all parameters by their names -/
theorem pe_ck {ks : List Str} {gV : List V → List V} (C : CalK X.prog X.w X.K X.mg X.base CX x k ps ks gV sp) (hr : Room k X.A) (hx : Passes CX X E) (hkw : PK X kws tk) (hg : Gl X x := by rfl) (hdb : (x == ("__debug__" : Str)) = false := by decide)
    (hall : (backToKw pos (keywordEach kws X.env)).all (·.1.isSome) = true := by rfl) (hks : (backToKw pos (keywordEach kws X.env)).filterMap (·.1) = ks := by rfl)
    (hpl : ((backTo pos (starEach [] X.env)).any (·.1) || (backToKw pos (keywordEach kws X.env)).any (·.1.isNone)) = false := by rfl) :
    PE X (.Call (.Name x p) [] kws pos) (fun σ H Q => tk σ H fun zs H2 => zs.length = ks.length ∧ sp (gV zs) H2 Q E) := by
  obtain ⟨f, fd, gU, hm, hk, hb, F⟩ := C
  refine ⟨fun pins s σ H Q I h => ?_⟩
  refine wpAny_Call_Name_kw (ld_glob I hg hm ?_ hdb)
  refine PySem.W.callWith_KW0 (h₀ := X.base) I.ok.mod.kin hk hall (thn (hkw.run pos pins s σ H _ I h) fun ws s2 ⟨zs, H2, I2, rz, l2, q2⟩ => ⟨I2.kIn, ?_⟩) hpl
  rw [hks]
  exact run_fnN F hr hb hx I2 .nil rz rfl l2 q2
end
end L2

/-! ### heaps: what is changed -/
namespace L2
open PySem PySem.Spec PyProof.Rows
/-- all that was tracked but what stands at M is as it was -/
def Eff (M : List Addr) (H H' : Hp) : Prop := ∀ b o, H b = some o → b ∉ M → H' b = some o
section
variable {M M' : List Addr} {H H1 H2 : Hp} {a b p : Addr} {o u : HO} {K : PySem.W.Frag} {xs : List V}
theorem Eff.refl : Eff M H H := fun _ _ h _ => h
theorem Eff.trans (e : Eff M H H1) (f : Eff M H1 H2) : Eff M H H2 := fun b o h n => f b o (e b o h n) n
theorem Eff.mono (e : Eff M H H1) (h : ∀ b ∈ M, b ∈ M') : Eff M' H H1 := fun b o q n => e b o q fun z => n (h b z)
theorem Eff.nil (e : Eff [] H H1) : Eff M H H1 := e.mono fun _ h => absurd h (by simp)
theorem Eff.same (e : Same H H1) : Eff M H H1 := fun b o h _ => e b o h
theorem Eff.toSame (e : Eff [] H H1) : Same H H1 := fun b o h => e b o h (by simp)
/-- a store at an address that was free at the beginning -/
theorem Eff.put (e : Eff M H H1) (hp : H p = none) : Eff M H (upd H1 p o) := fun b u q n => by
  rw [upd_ne (ne_of_none q hp)]
  exact e b u q n
/-- a store at one of M -/
theorem Eff.set (e : Eff M H H1) (hp : p ∈ M) : Eff M H (upd H1 p o) := fun b u q n => by
  rw [upd_ne (fun z => n (by rw [z]; exact hp))]
  exact e b u q n
/-- what is free now was free at the beginning, unless it is one of M -/
theorem Eff.free (e : Eff M H H1) (hp : H1 p = none) (n : p ∉ M) : H p = none := by
  cases q : H p with
  | none => rfl
  | some o => rw [e p o q n] at hp; cases hp
theorem Eff.at (e : Eff M H H1) (h : H b = some o) (n : b ∉ M) : H1 b = some o := e b o h n
/-- no tuple -/
def noT : HO → Bool
  | .tup _ => false
  | .frz _ (.tup _) => false
  | _ => true
/-- at the addresses M no tuple stands -/
def Lists (M : List Addr) (H : Hp) : Prop := ∀ b ∈ M, ∀ o, H b = some o → noT o = true
theorem Lists.one {H : Hp} {b : Addr} {o : HO} (h : H b = some o) (t : noT o = true) : Lists [b] H := fun c hc u hu => by
  rw [List.mem_singleton.mp hc, h] at hu
  cases hu
  exact t
theorem Lists.cons {H : Hp} {b : Addr} {M : List Addr} (h : ∀ o, H b = some o → noT o = true) (t : Lists M H) : Lists (b :: M) H := fun c hc u hu => by
  rcases List.mem_cons.mp hc with e | hc
  · rw [e] at hu; exact h u hu
  · exact t c hc u hu
theorem Lists.cons1 {H : Hp} {b : Addr} {o : HO} {M : List Addr} (h : H b = some o) (k : noT o = true) (t : Lists M H) : Lists (b :: M) H := .cons (fun u hu => by rw [h] at hu; cases hu; exact k) t
theorem Lists.cons0 {H : Hp} {b : Addr} {M : List Addr} (h : H b = none) (t : Lists M H) : Lists (b :: M) H := .cons (fun u hu => by rw [h] at hu; cases hu) t
theorem Lists.nil : Lists [] H := fun b h => absurd h (by simp)
theorem Eff.seqT (e : Eff M H H1) (l : Lists M H) (h : SqT K H a xs) : SqT K H1 a xs := by
  rcases h with (h | ⟨o, h⟩) | h
  · refine .inl (.inl (e _ _ h fun z => ?_))
    exact absurd (l a z _ h) (by simp [noT])
  · refine .inl (.inr ⟨o, e _ _ h fun z => ?_⟩)
    exact absurd (l a z _ h) (by simp [noT])
  · exact .inr h
theorem Eff.seqT0 (e : Eff [] H H1) (h : SqT K H a xs) : SqT K H1 a xs := e.seqT Lists.nil h
theorem Eff.seqL (e : Eff M H H1) (n : a ∉ M) (h : SqL K H a xs) : SqL K H1 a xs := by
  rcases h with (h | ⟨o, h⟩) | h
  · exact .inl (.inl (e _ _ h n))
  · exact .inl (.inr ⟨o, e _ _ h n⟩)
  · exact .inr h
/-- what is free now was free at the beginning, where M holds lists still -/
theorem Eff.freeL (e : Eff M H H1) (l : ∀ b ∈ M, H1 b ≠ none) (hp : H1 p = none) : H p = none := e.free hp fun z => l p z hp
end
/-! ### data -/
mutual
/-- the value v is the datum d; lists and dicts in it stand at none of M -/
def At (K : PySem.W.Frag) (M : List Addr) (H : Hp) : PyData → V → Prop
  | .none, v => v = .non
  | .bool b, v => v = .bl b
  | .int i, v => v = .int i
  | .str x, v => v = .str x
  | .list ds, v => ∃ a xs, v = .ref a ∧ H a = some (.lst xs) ∧ a ∉ M ∧ AtL K M H ds xs
  | .tuple ds, v => ∃ a xs, v = .ref a ∧ SqT K H a xs ∧ AtL K M H ds xs
  | .dict kvs, v => kvs = [] ∧ ∃ a, v = .ref a ∧ H a = some (.dK []) ∧ a ∉ M
def AtL (K : PySem.W.Frag) (M : List Addr) (H : Hp) : List PyData → List V → Prop
  | [], vs => vs = []
  | d :: ds, vs => ∃ v r, vs = v :: r ∧ At K M H d v ∧ AtL K M H ds r
end
section
variable {K : PySem.W.Frag} {M M' : List Addr} {H H1 : Hp}
mutual
theorem At.eff (e : Eff M' H H1) (l : Lists M' H) (hM : ∀ b ∈ M', b ∈ M) : ∀ (d : PyData) (v : V), At K M H d v → At K M H1 d v
  | .none, v, h => h
  | .bool _, v, h => h
  | .int _, v, h => h
  | .str _, v, h => h
  | .list ds, v, ⟨a, xs, ev, ha, n, hl⟩ => ⟨a, xs, ev, e _ _ ha (fun z => n (hM _ z)), n, AtL.eff e l hM ds xs hl⟩
  | .tuple ds, v, ⟨a, xs, ev, ha, hl⟩ => ⟨a, xs, ev, e.seqT l ha, AtL.eff e l hM ds xs hl⟩
  | .dict kvs, v, ⟨e0, a, ev, ha, n⟩ => ⟨e0, a, ev, e _ _ ha (fun z => n (hM _ z)), n⟩
theorem AtL.eff (e : Eff M' H H1) (l : Lists M' H) (hM : ∀ b ∈ M', b ∈ M) : ∀ (ds : List PyData) (vs : List V), AtL K M H ds vs → AtL K M H1 ds vs
  | [], vs, h => h
  | d :: ds, vs, ⟨v, r, ev, h1, h2⟩ => ⟨v, r, ev, At.eff e l hM d v h1, AtL.eff e l hM ds r h2⟩
end
mutual
theorem At.less (hM : ∀ b ∈ M', b ∈ M) : ∀ (d : PyData) (v : V), At K M H d v → At K M' H d v
  | .none, v, h => h
  | .bool _, v, h => h
  | .int _, v, h => h
  | .str _, v, h => h
  | .list ds, v, ⟨a, xs, ev, ha, n, hl⟩ => ⟨a, xs, ev, ha, fun z => n (hM _ z), AtL.less hM ds xs hl⟩
  | .tuple ds, v, ⟨a, xs, ev, ha, hl⟩ => ⟨a, xs, ev, ha, AtL.less hM ds xs hl⟩
  | .dict kvs, v, ⟨e0, a, ev, ha, n⟩ => ⟨e0, a, ev, ha, fun z => n (hM _ z)⟩
theorem AtL.less (hM : ∀ b ∈ M', b ∈ M) : ∀ (ds : List PyData) (vs : List V), AtL K M H ds vs → AtL K M' H ds vs
  | [], vs, h => h
  | d :: ds, vs, ⟨v, r, ev, h1, h2⟩ => ⟨v, r, ev, At.less hM d v h1, AtL.less hM ds r h2⟩
end
theorem AtL.length : ∀ {ds : List PyData} {vs : List V}, AtL K M H ds vs → vs.length = ds.length
  | [], vs, h => by rw [show vs = [] from h]; rfl
  | d :: ds, vs, ⟨v, r, ev, h1, h2⟩ => by rw [ev, List.length_cons, List.length_cons, AtL.length h2]
theorem AtL.get : ∀ {ds : List PyData} {vs : List V} {i : Nat} {v : V}, AtL K M H ds vs → vs[i]? = some v → ∃ d, ds[i]? = some d ∧ At K M H d v
  | [], vs, i, v, h, e => by rw [show vs = [] from h] at e; simp at e
  | d :: ds, vs, 0, v, ⟨w, r, ev, h1, h2⟩, e => by
    subst ev
    obtain rfl : w = v := Option.some.inj e
    exact ⟨d, rfl, h1⟩
  | d :: ds, vs, i + 1, v, ⟨w, r, ev, h1, h2⟩, e => by
    subst ev
    have q : ∃ d', ds[i]? = some d' ∧ At K M H d' v := AtL.get h2 (by simpa using e)
    obtain ⟨d', e1, e2⟩ := q
    exact ⟨d', by simpa using e1, e2⟩
theorem AtL.snoc : ∀ {ds : List PyData} {vs : List V} {d : PyData} {v : V}, AtL K M H ds vs → At K M H d v → AtL K M H (ds ++ [d]) (vs ++ [v])
  | [], vs, d, v, h, hv => by rw [show vs = [] from h]; exact ⟨v, [], rfl, hv, rfl⟩
  | _ :: ds, vs, d, v, ⟨w, r, ev, h1, h2⟩, hv => by subst ev; exact ⟨w, r ++ [v], rfl, h1, AtL.snoc h2 hv⟩
theorem AtL.append : ∀ {ds es : List PyData} {vs ws : List V}, AtL K M H ds vs → AtL K M H es ws → AtL K M H (ds ++ es) (vs ++ ws)
  | [], es, vs, ws, h, hv => by rw [show vs = [] from h]; exact hv
  | _ :: ds, es, vs, ws, ⟨w, r, ev, h1, h2⟩, hv => by subst ev; exact ⟨w, r ++ ws, rfl, h1, AtL.append h2 hv⟩
theorem AtL.ints : ∀ (ns : List Int), AtL K M H (ns.map PyData.int) (ns.map V.int)
  | [] => rfl
  | n :: ns => ⟨_, _, rfl, rfl, AtL.ints ns⟩
theorem AtL.toInts : ∀ {ns : List Int} {vs : List V}, AtL K M H (ns.map PyData.int) vs → vs = ns.map V.int
  | [], vs, h => h
  | n :: ns, vs, ⟨v, r, ev, h1, h2⟩ => by rw [ev, show v = V.int n from h1, AtL.toInts h2]; rfl
/-- the name of a datum's type -/
def tyN : PyData → String
  | .none => "NoneType"
  | .bool _ => "bool"
  | .int _ => "int"
  | .str _ => "str"
  | .list _ => "list"
  | .tuple _ => "tuple"
  | .dict _ => "dict"
theorem TyX.seqT {a : Addr} {xs : List V} (h : SqT K H a xs) : TyX K H (.ref a) (.type "tuple") := by
  rcases h with (h | ⟨o, h⟩) | ⟨o, its, n, h, c, _⟩
  · exact .base (.tup h)
  · exact .fTuple h
  · exact .kTuple h c
theorem At.ty : ∀ {d : PyData} {v : V}, At K M H d v → TyX K H v (.type (tyN d))
  | .none, v, h => by rw [show v = V.non from h]; exact .base .non
  | .bool b, v, h => by rw [show v = V.bl b from h]; exact .base (.bl b)
  | .int i, v, h => by rw [show v = V.int i from h]; exact .base (.int i)
  | .str x, v, h => by rw [show v = V.str x from h]; exact .base (.str x)
  | .list ds, v, ⟨a, xs, ev, ha, n, hl⟩ => by rw [ev]; exact .base (.lst ha)
  | .tuple ds, v, ⟨a, xs, ev, ha, hl⟩ => by rw [ev]; exact TyX.seqT ha
  | .dict kvs, v, ⟨e0, a, ev, ha, n⟩ => by rw [ev]; exact .base (.dK ha)
end
end L2

/-! ### classes, bundled; constants; the rule for a def -/
namespace L2
open PySem PySem.Spec PyProof.Rows
/-- C(..): the class that the module's name x stands for, its __init__'s promise -/
def MkCal (P : Program) (w : World) (K : PySem.W.Frag) (mg : Str → Option Value) (base : Heap) (CX : CXT) (x : Str) (C : Addr) (k : Nat) (ps : List Str) (sp : Sp) : Prop :=
  ∃ (f : Addr) (fd : FuncData), mg x = some (.ref C) ∧ Mk K C f ∧ Binds K fd ps [] ∧ FnOk P w K mg base CX k f fd ps sp
def MethCal (P : Program) (w : World) (K : PySem.W.Frag) (mg : Str → Option Value) (base : Heap) (CX : CXT) (C : Addr) (m : Str) (k : Nat) (ps : List Str) (sp : Sp) : Prop :=
  ∃ (f : Addr) (fd : FuncData), Cls K C ∧ Meth K C m f ∧ Binds K fd ps [] ∧ FnOk P w K mg base CX k f fd ps sp
section
variable {P : Program} {w : World} {K : PySem.W.Frag} {mg : Str → Option Value} {base : Heap} {CX : CXT} {x m : Str} {C : Addr} {j k : Nat} {ps : List Str} {sp sp' : Sp}
theorem MkCal.mono (Z : MkCal P w K mg base CX x C j ps sp) (h : j ≤ k) : MkCal P w K mg base CX x C k ps sp := let ⟨f, fd, a, b, c, e⟩ := Z; ⟨f, fd, a, b, c, e.mono h⟩
theorem MethCal.mono (Z : MethCal P w K mg base CX C m j ps sp) (h : j ≤ k) : MethCal P w K mg base CX C m k ps sp := let ⟨f, fd, a, b, c, e⟩ := Z; ⟨f, fd, a, b, c, e.mono h⟩
end
section
variable {X : Cx} {CX : CXT} {k : Nat} {ps : List Str} {sp : Sp} {E : XK} {x m : Str} {C : Addr} {p pos apos : Pos} {e o : Expr} {es : List Expr} {t : TA} {ta : TE}
theorem pe_mkc (Z : MkCal X.prog X.w X.K X.mg X.base CX x C k ps sp) (hr : Room (k + 1) X.A) (hx : Passes CX X E) (ha : PA X (e :: es) t) (hg : Gl X x := by rfl) (hdb : (x == ("__debug__" : Str)) = false := by decide)
    (he : starEach (e :: es) X.env = (false, eval e X.env) :: starEach es X.env := by rfl) (hpl : (backTo pos (starEach es X.env)).any (·.1) = false := by rfl) :
    PE X (.Call (.Name x p) (e :: es) [] pos) (tMake C sp [] E t) := by
  obtain ⟨f, fd, hm, M, hb, F⟩ := Z
  exact pe_make M F hr hg hm hb .nil hx ha hdb he hpl
theorem pe_gint {i : Int} (hm : ∃ t, X.mg x = some (.int i t)) (hg : Gl X x := by rfl) (hd : (x == ("__debug__" : Str)) = false := by decide) : PE X (.Name x p) (tC (.int i)) := by
  obtain ⟨t, ht⟩ := hm
  exact pe_glob hg ht ⟨t, rfl⟩ hd
end
end L2
set_option Elab.async false
set_option linter.all false
set_option maxRecDepth 100000
set_option maxHeartbeats 4000000
/-! sorted(d) of a dict whose keys are ints, however many -/
namespace L2
open PySem PySem.Spec PyProof.Rows
/-- what is collected from a dict with the keys ks -/
theorem ints_of_keys {vs : List (Key × Value)} {us : List Value} {ks : List Int} (hk : vs.map (·.1) = ks.map Sum.inl) (hl : us.length = vs.length) (h : ∀ (j : Nat) (v : Value), us[j]? = some v → ∃ (k : Key) (x : Value), vs[j]? = some (k, x) ∧ keyIs k v = true) : IntsAre us ks := by
  have len : vs.length = ks.length := by
    have q := congrArg List.length hk
    simpa using q
  refine ints_each (hl.trans len) fun j v e => ?_
  obtain ⟨k, x, e1, e2⟩ := h j v e
  have e3 : (ks.map Sum.inl)[j]? = some k := by
    rw [← hk, List.getElem?_map, e1]
    rfl
  rw [List.getElem?_map] at e3
  obtain ⟨y, ey, rfl⟩ := Option.map_eq_some_iff.mp e3
  rcases keyIs_shape e2 with ⟨i, t, a, b⟩ | ⟨z, t, a, _⟩
  · obtain rfl := Sum.inl.inj a
    exact ⟨y, t, ey, b⟩
  · cases a
def rSortedDI : List V → Hp → VK → Prop := fun xs H Q => ∃ (a : Addr) (kvs : List (Key × V)) (ks : List Int), xs = [.ref a] ∧ Rd H a (.dK kvs) ∧ kvs.map (·.1) = ks.map Sum.inl ∧
  ∀ (ys : List Int) (p : Addr), ys.Perm ks → ys.Pairwise (· ≤ ·) → H p = none → Q (.ref p) (upd H p (.lst (ys.map V.int)))
theorem cr_sortedDI {X : Cx} (hcalm : X.calm = true) : CallR X (.builtin "sorted") rSortedDI := by
  intro pins s σ H xs us Q I r q
  obtain ⟨a, kvs, ks, rfl, hd, hks, q⟩ := q
  rw [Vals.ref1 r]
  obtain ⟨z, lo, vs, rel, dd⟩ := dk_rd I.hok hd
  obtain ⟨ep, hat⟩ := dd.dictAt
  have len := rel.length
  refine Calls.call_function_entry kind_sorted plain_sorted entry_sorted (args_sorted1 _) ?_
  unfold Builtin.«sorted»
  refine wpAny_bind (m := checkCount "sorted" 1 1 _) (wpAny_pure (wpAny_bind (PySem.W.kdu_collect (A := X.A.in1) (PySem.W.kdl_dict (knd := mixKind X.prog X.w) (kvs := vs) (ep := ep) lo) (I.ok.hd hcalm) hat (by omega) fun h' tk acc hk hacc => ?_)))
  have la : acc.toList.length = vs.length := by rw [Array.length_toList]; exact hacc.1
  have hi : IntsAre acc.toList ks := ints_of_keys (rel.keys.symm.trans hks) la fun j v e => hacc.2 j v (by rw [← Array.getElem?_toList]; exact e)
  have J : Inv X pins σ H { s with heap := h', toks := tk } := I.kept hk
  have room : acc.toList.length ≤ sizeLine := by omega
  refine wpAny_bind (wpAny_newList ?_ room)
  have new : (h'.push (seqObj "list" acc.toList.toArray 0)).get? h'.objs.size = some (seqObj "list" acc.toList.toArray 0) := Heap.get?_push_size _ rfl
  show wpAny _ _ _ _ _ { s with heap := h'.push (seqObj "list" acc.toList.toArray 0), toks := tk }
  refine wpAny_bind (wpAny_holding (wpAny_call_entry slot_list_sort ⟨_, new, rfl⟩ entry_list_sort (SrtO.list_sort_ord SrtO.swo_int new room (fun h2 => SrtO.ints_sortable hi h2) fun out o1 o2 => ⟨_, rfl, ?_⟩) (args_list_sort _)))
  obtain ⟨k1, k2, k3⟩ := SrtO.ints_out hi o1 o2
  obtain ⟨ep', lies⟩ := sortedHeap_at (vs := acc.toList) (out := out.toArray) new
  have fits : ((out.map SrtO.iv).map V.int).length ≤ sizeLine := by
    have q := k2.length_eq
    have q2 := SrtO.iv_ints hi
    have q3 := congrArg List.length q2
    rw [List.length_map] at q3
    rw [List.length_map, q]
    omega
  refine wpAny_pure ⟨_, rfl, .ref h'.objs.size, upd H h'.objs.size (.lst ((out.map SrtO.iv).map V.int)), J.laid (t' := tk) (fun b u e => ?_) (Nat.le_refl _) ⟨fits, out, ep', vals_of_ints k1, lies⟩, rfl, q _ _ k2 k3 (J.hok.fresh (Nat.le_refl _))⟩
  have hb : b < h'.objs.size := Heap.lt_size e
  rw [sortedHeap_old (Nat.ne_of_lt hb) (by rw [size_push']; exact Nat.lt_succ_of_lt hb)]
  exact Heap.get?_push_of_some _ e
end L2
namespace L2
open PySem PySem.Spec PyProof.Rows
/-- x is True, x is False, x no object -/
def rIsP : R2 := fun x y H Q => ∃ b : Bool, flatV x = true ∧ y = .bl b ∧ Q (.bl (decide (x = .bl b))) H
theorem op_isP {X : Cx} : OpR X (compareOp .Is) rIsP := by
  intro pins s σ H x y v u Q I rx ry h
  obtain ⟨b, fx, rfl, q⟩ := h
  cases (show u = Value.bool b from ry)
  cases x with
  | non => cases rx; exact wpAny_is_other rfl (fun z => by cases z) ⟨.bl false, H, I, rfl, q⟩
  | bl a =>
    cases (show v = Value.bool a from rx)
    by_cases e : a = b
    · subst e
      exact wpAny_is_self rfl ⟨.bl true, H, I, rfl, by simpa using q⟩
    · exact wpAny_is_other rfl (fun z => e (Value.bool.inj z)) ⟨.bl false, H, I, rfl, by simpa [e] using q⟩
  | int i => obtain ⟨t, rfl⟩ := rx; exact wpAny_is_other rfl (fun z => by cases z) ⟨.bl false, H, I, rfl, q⟩
  | str i => obtain ⟨t, rfl⟩ := rx; exact wpAny_is_other rfl (fun z => by cases z) ⟨.bl false, H, I, rfl, q⟩
  | _ => cases fx
end L2
namespace L2
open PySem PySem.Spec PyProof.Rows
/-- (x,) * k -/
def rRepOne (K : PySem.W.Frag) : R2 := fun x y H Q => ∃ l k v, x = .ref l ∧ y = .int k ∧ SqT K H l [v] ∧ 2 ≤ k ∧ k ≤ 100000 ∧ ∀ p, H p = none → Q (.ref p) (upd H p (.tup (List.replicate k.toNat v)))
theorem flat_one {α : Type} (v : α) : ∀ n : Nat, (List.replicate n [v]).flatten = List.replicate n v
  | 0 => rfl
  | n + 1 => by rw [List.replicate_succ, List.flatten_cons, flat_one v n, List.replicate_succ]; rfl
theorem vals_one {v : V} {u : Value} (h : RelV v u) : ∀ n : Nat, Vals (List.replicate n v) (List.replicate n u)
  | 0 => .nil
  | n + 1 => .cons h (vals_one h n)
theorem op_repOne {X : Cx} : OpR X (binaryOp .Mult) (rRepOne X.K) := by
  intro pins s σ H x y v u Q I rx ry h
  obtain ⟨l, k, z, rfl, rfl, hT, k2, kM, q⟩ := h
  cases rx
  obtain ⟨t, rfl⟩ := ry
  obtain ⟨its, r, ⟨⟨cls, dd, data, sl⟩, ho, hc, n, hd⟩, _⟩ := I.tuple hT
  simp only at hc hd
  subst hc hd
  obtain ⟨i, rfl, ri⟩ := r.one
  have big : k.toNat ≤ sizeLine := by rw [sizeLine_eq]; omega
  have c0 : (decide (k < -(2 ^ 63)) || decide (k ≥ 2 ^ 63)) = false := by
    rw [Bool.or_eq_false_iff]
    exact ⟨decide_eq_false (by omega), decide_eq_false (by omega)⟩
  have c1 : ([i].toArray.isEmpty || k == 1) = false := by
    rw [Bool.or_eq_false_iff]
    exact ⟨rfl, beq_eq_false_iff_ne.mpr (by omega)⟩
  have c2 : (decide (k ≤ 0) || [i].toArray.isEmpty) = false := by
    rw [Bool.or_eq_false_iff]
    exact ⟨decide_eq_false (by omega), rfl⟩
  have c3 : ¬ (([i].toArray.size : Nat) : Int) * k > (2 ^ 63 - 1) / 8 := by
    show ¬ (1 : Int) * k > (2 ^ 63 - 1) / 8
    omega
  have c4 : Builtin.Tuple.tupleTooMany ((([i].toArray.size : Nat) : Int) * k) = false := by
    show decide ((1 : Int) * k > (sizeLine : Int)) = false
    exact decide_eq_false (by omega)
  have ef := size_rep [i] k.toNat
  rw [flat_one] at ef
  have c5 : (List.foldl (fun a b => a ++ b) #[] (List.replicate k.toNat [i].toArray)).size ≤ sizeLine := by
    rw [ef]
    simpa using big
  have hU := typeIs_int s k t
  have hl : s.TypeIs (.ref l) "tuple" := ⟨_, ho, rfl⟩
  have mul := tuple_mulW l [i].toArray n dd sl k t c0 c1 c2 c3 c4 c5
  refine wpAny_binaryOp_repeat_ref (T := "tuple") (U := "int") (by decide) hl (fun s' => typeIs_int s' k t) noFill_tuple_mul
    F.fills_int_mul F.slot_int_rmul repeat_tuple F.slot_int_index.lookup
    (call_meets F.slot_int_rmul hU F.entry_int_rmul (F.args_int_rmul_2 _ _) (int_rmul_tuple k t l [i].toArray n dd sl)
      ⟨ho, rfl, hl, call_meets F.slot_tuple_mul hl F.entry_tuple_mul (F.args_tuple_mul_2 _ _) mul ⟨ho, ?_⟩⟩)
  rw [ef]
  exact ⟨.ref s.heap.objs.size, _, I.laid (t' := s.toks) (o := .tup (List.replicate k.toNat z)) (fun b ob e => Heap.get?_push_of_some _ e) (Nat.le_refl _) ⟨by simpa using big, _, vals_one ri k.toNat, IsTup.new _ _⟩, rfl, q _ (I.hok.fresh (Nat.le_refl _))⟩
end L2
set_option Elab.async false
set_option linter.all false
set_option maxRecDepth 100000
set_option maxHeartbeats 4000000
/-! the facts of a head: defs, constants, classes; exceptions with super().__init__(at); tables of defs that hold lambdas -/
namespace HH
open PySem PySem.Spec PyProof.Rows L2 He
/-- what the module's names reach, and the statics -/
def asH (g : Addr → Option Obj) : Nat → List Addr
  | 0 => [mainGlobals, PySem.cStatics]
  | n + 1 => growD g (asH g n)
/-- the __init__ of the class that the module's name x stands for -/
abbrev FnC : Type := Option (Str × Str × Arguments × FuncBody × Scope × Addr × List Str × Addr)
def ini (K : PySem.W.Frag) (x : Str) : Addr := ma K (ga K x) "__init__"
def fnC (K : PySem.W.Frag) (x : Str) : FnC := match K.lookup (ini K x) with
  | some ⟨_, _, .func fd, _⟩ => some (fd.name, fd.qualname, fd.params, fd.body, fd.scope, fd.globals, fd.closure.map (·.1), fd.builtins)
  | _ => none
def clsB (K : PySem.W.Frag) (C : Addr) : Bool := match K.lookup C with
  | some ⟨.type t, _, .cls cd, sl⟩ => (match cd.mro, sl.toList with
    | .ref D :: bm, [_, _, _, _, some (.builtin n), _] => decide (t = "type") && (decide (D = C) && (decide (n = "ValueError.__new__") && (!cd.hasDel && (cd.hasDict && PySem.HandSPX.refsVE bm))))
    | _, _ => false)
  | _ => false
def fnB (K : PySem.W.Frag) (file : Str) (x : Str) : Bool := match K.lookup (ini K x) with
  | some ⟨_, _, .func fd, _⟩ => (match fd.defaults, fd.kwdefaults, fd.code, fd.closure with
    | .none, .none, .ref cda, [(_, cc)] => PySem.W.codeIn K (.ref cda) fd.qualname && ((match K.lookup cc with
        | some ⟨_, _, .cell (some (.ref D)), _⟩ => decide (D = ga K x)
        | _ => false) && (match K.lookup cda with
        | some ⟨_, _, .fields vs, _⟩ => (match (vs[2]? : Option Value) with
          | some (Value.str fl _) => decide (file = fl)
          | _ => false)
        | _ => false))
    | _, _, _, _ => false)
  | _ => false
def atB (K : PySem.W.Frag) (file : Str) (x : Str) : Bool :=
  eqO (PySem.W.nsIn K mainGlobals x) (some (some (.ref (ga K x)))) && (clsB K (ga K x) && (eqO (PySem.W.findIn K (.ref (ga K x)) "__setattr__") (some (some (.builtin "object.__setattr__"))) &&
  (eqO (PySem.W.findIn K (.ref (ga K x)) "__getattribute__") (some (some (.builtin "BaseException.__getattribute__"))) && (eqO (PySem.W.findIn K (.ref (ga K x)) "__getattr__") (some none) && (eqO (PySem.W.findIn K (.ref (ga K x)) "at") (some none) &&
  (eqO (PySem.W.findIn K (.ref (ga K x)) "__init__") (some (some (.ref (ini K x)))) && (decide (PySem.W.typeIn K (.ref (ini K x)) = some (.type "function")) && (PySem.W.keepIn K (.ref (ga K x)) && (decide (PySem.W.subIn K (.ref (ga K x)) (.type "BaseException") = some true) &&
  (decide (PySem.W.subIn K (.ref (ga K x)) (.type "ValueError") = some true) && (decide (PySem.W.mroIn K (ga K x) (.ref (ga K x)) = some true) && (decide (PySem.W.typeIn K (.ref (ga K x)) = some (.type "type")) && (PySem.W.hasDictIn K (ga K x) &&
  (eqO (PySem.W.ks_superIn K (ga K x) (ga K x) "__init__") (some (some (.builtin "ValueError.__init__"))) && (eqO (PySem.W.nsIn K PySem.cStatics "thirdparty.any") (some none) && (eqO (PySem.W.nsIn K mainGlobals "super") (some none) && fnB K file x))))))))))))))))
theorem clsB_ok {K : PySem.W.Frag} {C : Addr} (h : clsB K C = true) : ∃ nm q N bs bm sn sub ab col dd k0 k1 k2 k3 k5, K.lookup C = some (excClassObj nm q C N bs bm true sn sub ab col dd k0 k1 k2 k3 k5 "ValueError.__new__") ∧ PySem.HandSPX.refsVE bm = true := by
  unfold clsB at h
  split at h
  · rename_i t dd cd sl ho
    split at h
    · rename_i D bm k0 k1 k2 k3 n k5 hm hs
      simp only [Bool.and_eq_true, decide_eq_true_eq, Bool.not_eq_true'] at h
      obtain ⟨rfl, rfl, rfl, h4, h5, h6⟩ := h
      obtain ⟨nm, bs, mro, ns, qn, hd, sn, sub, ab, col, del⟩ := cd
      simp only at hm h4 h5
      subst hm
      subst h4
      subst h5
      refine ⟨nm, qn, ns, bs, bm, sn, sub, ab, col, dd, k0, k1, k2, k3, k5, ?_, h6⟩
      rw [ho]
      have e : sl = #[k0, k1, k2, k3, some (.builtin "ValueError.__new__"), k5] := by
        apply Array.ext'
        rw [hs]
      rw [e]
    · cases h
  · cases h
structure SaysH (fa : List Fa) (fn : List DefD) (xs : List Str) (xv : List FnC) (tf : List Defn) (file : Str) (h : Heap) (K : PySem.W.Frag) : Prop where
  d : SaysD fa fn K
  x : ∀ p ∈ xs, atB K file p = true
  v : xs.map (fnC K) = xv
  hd : ∀ p ∈ tf, PySem.W.codeHdIn K (cT K p).1 (cT K p).2 = true
  out : ∀ p ∈ tf, K.lookup (cT K p).2 = none
  empty : ∀ p ∈ tf, h.get? (cT K p).2 = some { cls := .none, data := .fields #[] }
abbrev AlH : Type := AlD × List FnC × Bool
def obsH (n : Nat) (fa : List Fa) (fn : List DefD) (xs : List Str) (tf : List Defn) (file : Str) (g : Addr → Option Obj) : AlH :=
  (obsD fa fn (frT g (asH g n)), xs.map (fnC (frT g (asH g n))), (xs.all fun p => atB (frT g (asH g n)) file p) && tabsB g tf (frT g (asH g n)))
def valH (fn : List DefD) (xv : List FnC) : AlH := (valD fn, xv, true)
theorem saysH_of {n : Nat} {fa : List Fa} {fn : List DefD} {xs : List Str} {xv : List FnC} {tf : List Defn} {file : Str} {h : Heap} (e : obsH n fa fn xs tf file h.get? = valH fn xv) : SaysH fa fn xs xv tf file h (frT h.get? (asH h.get? n)) := by
  have e1 := congrArg (fun z : AlH => z.1) e
  have e2 := congrArg (fun z : AlH => z.2.1) e
  have e3 : ((xs.all fun p => atB (frT h.get? (asH h.get? n)) file p) && tabsB h.get? tf (frT h.get? (asH h.get? n))) = true := congrArg (fun z : AlH => z.2.2) e
  obtain ⟨e4, e5⟩ := ba e3
  have tab : ∀ p ∈ tf, PySem.W.codeHdIn (frT h.get? (asH h.get? n)) (cT (frT h.get? (asH h.get? n)) p).1 (cT (frT h.get? (asH h.get? n)) p).2 = true ∧ ∃ o, h.get? (cT (frT h.get? (asH h.get? n)) p).2 = some o ∧ emptyTab o = true := fun p hp => by
    have q := List.all_eq_true.mp e5 p hp
    obtain ⟨q1, q2⟩ := ba q
    refine ⟨q1, ?_⟩
    split at q2
    · rename_i o ho
      exact ⟨o, ho, q2⟩
    · cases q2
  refine ⟨e1, fun p hp => List.all_eq_true.mp e4 p hp, e2, fun p hp => (tab p hp).1, fun p hp => ?_, fun p hp => ?_⟩
  · obtain ⟨_, o, ho, ht⟩ := tab p hp
    exact frT_none ho ht
  · obtain ⟨_, o, ho, ht⟩ := tab p hp
    rw [ho, emptyTab_eq ht]
def hookH (n : Nat) (fa : List Fa) (fn : List DefD) (xs : List Str) (xv : List FnC) (tf : List Defn) (file : Str) : PySem.W.Hook where
  α := AlH
  obs := fun s => obsH n fa fn xs tf file s.heap.get?
  val := fun _ => valH fn xv
  says := fun _ h => ∃ K : PySem.W.Frag, K.In h ∧ SaysH fa fn xs xv tf file h K
  of := fun _ _ e => ⟨_, frT_in, saysH_of e⟩
  keeps := fun _ _ _ ⟨K, hK, c⟩ k => ⟨K, PySem.W.Frag.In.keeps hK k, ⟨c.d, c.x, c.v, c.hd, c.out, fun p hp => k _ _ (c.empty p hp)⟩⟩
theorem obsH_eq {n : Nat} {fa : List Fa} {fn : List DefD} {xs : List Str} {xv : List FnC} {tf : List Defn} {file : Str} {g : Addr → Option Obj} {s : Shared} (h : ∀ a, g a = s.heap.get? a) : obsH n fa fn xs tf file g = (hookH n fa fn xs xv tf file).obs s := by
  have e : g = s.heap.get? := funext h
  rw [e]
  rfl
/-- the text of such an __init__ -/
def AtText (file : Str) (x : Str) (v : FnC) : Prop := ∃ (q : Str) (p1 p2 q1 q2 q3 q4 q5 q6 q7 q8 q9 q10 : Pos), (q3.endLine == q5.line) = true ∧
  v = some (("__init__" : Str), q, PySem.HX.iA p1 p2, FuncBody.stmts (PySem.HX.iB q1 q2 q3 q4 q5 q6 q7 q8 q9 q10), PySem.HX.iS, mainGlobals, [("__class__" : Str)], builtinsNs)
theorem atTxt_of {P : Program} {K : PySem.W.Frag} {h : Heap} {mg : Str → Option Value} {file x : Str} (X : K.In h) (G : h.Ns mainGlobals mg) (b : atB K file x = true) (t : AtText file x (fnC K x)) (hf : P.main.file = file) (hs : (P.main.scope.names.lookup ("super" : Str)).isSome = false) :
    PySem.HX.AtTxt P K mg (ga K x) (ini K x) ∧ mg x = some (.ref (ga K x)) := by
  obtain ⟨q, p1, p2, q1, q2, q3, q4, q5, q6, q7, q8, q9, q10, hl, hv⟩ := t
  unfold atB at b
  simp only [Bool.and_eq_true, decide_eq_true_eq] at b
  obtain ⟨b0, b1, b2, b3, b4, b5, b6, b7, b8, b9, b10, b11, b12, b13, b14, b15, b16, b17⟩ := b
  refine ⟨⟨clsB_ok b1, eqO_ok b2, eqO_ok b3, eqO_ok b4, eqO_ok b5, eqO_ok b6, b7, b8, b9, b10, b11, b12, b13, eqO_ok b14, eqO_ok b15, PySem.W.mg_none_of X G (eqO_ok b16), hs, ?_⟩, PySem.W.mg_of X G (eqO_ok b0)⟩
  unfold fnC at hv
  unfold fnB at b17
  split at hv
  · rename_i oc od fd sl ho
    rw [ho] at b17
    simp only at b17
    split at b17
    · rename_i cda nm cc e1 e2 e3 e4
      obtain ⟨fname, fqual, fpar, fbody, fscope, fglob, fclo, fdef, fkd, fdoc, fpm, fan, fcode, fct, fblt⟩ := fd
      simp only at e1 e2 e3 e4
      subst e1 e2 e3 e4
      simp only [List.map_cons, List.map_nil, Option.some.injEq, Prod.mk.injEq, List.cons.injEq] at hv
      obtain ⟨rfl, rfl, rfl, rfl, rfl, rfl, ⟨rfl, -⟩, rfl⟩ := hv
      simp only [Bool.and_eq_true] at b17
      obtain ⟨c1, c2, c3⟩ := b17
      split at c2
      · rename_i cl cld D csl hcc
        split at c3
        · rename_i ccl cdd vs ccs hcda
          split at c3
          · rename_i fl tf hvs
            refine ⟨oc, od, _, _, _, cda, cc, _, sl, p1, p2, q1, q2, q3, q4, q5, q6, q7, q8, q9, q10, _, hl, ho, c1, ⟨cl, cld, csl, ?_⟩, ccl, cdd, vs, ccs, fl, tf, hcda, hvs, ?_⟩
            · rw [hcc, of_decide_eq_true c2]
            · rw [hf, of_decide_eq_true c3]
              exact beq_self_eq_true _
          · cases c3
        · cases c3
      · cases c2
    · cases b17
  · cases hv
end HH
set_option Elab.async false
set_option linter.all false
set_option maxRecDepth 100000
set_option maxHeartbeats 4000000
/-! the text by places, what the head leaves; printed by gen/mktx.py -/
namespace HK
open PySem PySem.Spec PyProof.Rows L2
abbrev PP : Program := PySem.Challenge.pw_heldshares_k55_whole_work_span_width
def topS (i : Nat) : Stmt := PySem.Challenge.pw_heldshares_k55_whole_work_span_width.main.body.getD i (.Pass ⟨0, 0, 0, 0⟩)
abbrev s_lot_parts : Stmt := topS 12
abbrev nm_lot_parts : List Str := ["lot"]
abbrev sp_lot_parts : Scope := defScope s_lot_parts
theorem sc_lot_parts : FnScope nm_lot_parts ["lot"] (defScope s_lot_parts) := ⟨rfl, rfl, rfl, by decide +kernel, rfl, by decide +kernel, by decide +kernel⟩
abbrev s_is_lot_form : Stmt := topS 13
abbrev nm_is_lot_form : List Str := ["value"]
abbrev sp_is_lot_form : Scope := defScope s_is_lot_form
theorem sc_is_lot_form : FnScope nm_is_lot_form ["value"] (defScope s_is_lot_form) := ⟨rfl, rfl, rfl, by decide +kernel, rfl, by decide +kernel, by decide +kernel⟩
abbrev s_is_lot : Stmt := topS 14
abbrev nm_is_lot : List Str := ["value", "waiting", "many", "steps", "one", "deep", "part"]
abbrev sp_is_lot : Scope := defScope s_is_lot
theorem sc_is_lot : FnScope nm_is_lot ["value"] (defScope s_is_lot) := ⟨rfl, rfl, rfl, by decide +kernel, rfl, by decide +kernel, by decide +kernel⟩
abbrev s_checked_lot : Stmt := topS 15
abbrev nm_checked_lot : List Str := ["value", "at"]
abbrev sp_checked_lot : Scope := defScope s_checked_lot
theorem sc_checked_lot : FnScope nm_checked_lot ["value", "at"] (defScope s_checked_lot) := ⟨rfl, rfl, rfl, by decide +kernel, rfl, by decide +kernel, by decide +kernel⟩
abbrev s_steps_in : Stmt := topS 17
abbrev nm_steps_in : List Str := ["lot", "waiting", "found", "one"]
abbrev sp_steps_in : Scope := defScope s_steps_in
theorem sc_steps_in : FnScope nm_steps_in ["lot"] (defScope s_steps_in) := ⟨rfl, rfl, rfl, by decide +kernel, rfl, by decide +kernel, by decide +kernel⟩
abbrev s_edges_of : Stmt := topS 18
abbrev nm_edges_of : List Str := ["lot", "behind", "step"]
abbrev sp_edges_of : Scope := defScope s_edges_of
theorem sc_edges_of : FnScope nm_edges_of ["lot"] (defScope s_edges_of) := ⟨rfl, rfl, rfl, by decide +kernel, rfl, by decide +kernel, by decide +kernel⟩
abbrev s_tied : Stmt := topS 19
abbrev nm_tied : List Str := ["place", "behind", "ends", "end", "other", "one", "part"]
abbrev sp_tied : Scope := defScope s_tied
theorem sc_tied : FnScope nm_tied ["place", "behind"] (defScope s_tied) := ⟨rfl, rfl, rfl, by decide +kernel, rfl, by decide +kernel, by decide +kernel⟩
abbrev s_work_in : Stmt := topS 21
abbrev nm_work_in : List Str := ["lot"]
abbrev sp_work_in : Scope := defScope s_work_in
theorem sc_work_in : FnScope nm_work_in ["lot"] (defScope s_work_in) := ⟨rfl, rfl, rfl, by decide +kernel, rfl, by decide +kernel, by decide +kernel⟩
abbrev s_span_in : Stmt := topS 22
abbrev nm_span_in : List Str := ["lot", "parts", "part"]
abbrev sp_span_in : Scope := defScope s_span_in
theorem sc_span_in : FnScope nm_span_in ["lot"] (defScope s_span_in) := ⟨rfl, rfl, rfl, by decide +kernel, rfl, by decide +kernel, by decide +kernel⟩
abbrev s_span : Stmt := topS 23
abbrev nm_span : List Str := ["lot"]
abbrev sp_span : Scope := defScope s_span
theorem sc_span : FnScope nm_span ["lot"] (defScope s_span) := ⟨rfl, rfl, rfl, by decide +kernel, rfl, by decide +kernel, by decide +kernel⟩
abbrev s_width_in : Stmt := topS 24
abbrev nm_width_in : List Str := ["lot", "parts", "part"]
abbrev sp_width_in : Scope := defScope s_width_in
theorem sc_width_in : FnScope nm_width_in ["lot"] (defScope s_width_in) := ⟨rfl, rfl, rfl, by decide +kernel, rfl, by decide +kernel, by decide +kernel⟩
abbrev s_width : Stmt := topS 25
abbrev nm_width : List Str := ["lot"]
abbrev sp_width : Scope := defScope s_width
theorem sc_width : FnScope nm_width ["lot"] (defScope s_width) := ⟨rfl, rfl, rfl, by decide +kernel, rfl, by decide +kernel, by decide +kernel⟩
abbrev s_heights_in : Stmt := topS 26
abbrev nm_heights_in : List Str := ["lot", "behind", "found", "at", "one"]
abbrev sp_heights_in : Scope := defScope s_heights_in
theorem sc_heights_in : FnScope nm_heights_in ["lot"] (defScope s_heights_in) := ⟨rfl, rfl, rfl, by decide +kernel, rfl, by decide +kernel, by decide +kernel⟩
abbrev s_levels_in : Stmt := topS 27
abbrev nm_levels_in : List Str := ["lot", "behind", "found", "at", "some", "one"]
abbrev sp_levels_in : Scope := defScope s_levels_in
theorem sc_levels_in : FnScope nm_levels_in ["lot"] (defScope s_levels_in) := ⟨rfl, rfl, rfl, by decide +kernel, rfl, by decide +kernel, by decide +kernel⟩
abbrev s_heights : Stmt := topS 28
abbrev nm_heights : List Str := ["lot"]
abbrev sp_heights : Scope := defScope s_heights
theorem sc_heights : FnScope nm_heights ["lot"] (defScope s_heights) := ⟨rfl, rfl, rfl, by decide +kernel, rfl, by decide +kernel, by decide +kernel⟩
abbrev s_levels : Stmt := topS 29
abbrev nm_levels : List Str := ["lot"]
abbrev sp_levels : Scope := defScope s_levels
theorem sc_levels : FnScope nm_levels ["lot"] (defScope s_levels) := ⟨rfl, rfl, rfl, by decide +kernel, rfl, by decide +kernel, by decide +kernel⟩
abbrev s_law_draw : Stmt := topS 31
abbrev nm_law_draw : List Str := ["script", "salt", "cells", "blend", "cell"]
abbrev sp_law_draw : Scope := defScope s_law_draw
theorem sc_law_draw : FnScope nm_law_draw ["script", "salt"] (defScope s_law_draw) := ⟨rfl, rfl, rfl, by decide +kernel, rfl, by decide +kernel, by decide +kernel⟩
abbrev s_law_any : Stmt := topS 32
abbrev nm_law_any : List Str := ["deal", "bound", "rest"]
abbrev sp_law_any : Scope := defScope s_law_any
theorem sc_law_any : FnScope nm_law_any ["deal", "bound"] (defScope s_law_any) := ⟨rfl, rfl, rfl, by decide +kernel, rfl, by decide +kernel, by decide +kernel⟩
abbrev s_law_of : Stmt := topS 33
abbrev nm_law_of : List Str := ["deal", "some"]
abbrev sp_law_of : Scope := defScope s_law_of
theorem sc_law_of : FnScope nm_law_of ["deal", "some"] (defScope s_law_of) := ⟨rfl, rfl, rfl, by decide +kernel, rfl, by decide +kernel, by decide +kernel⟩
abbrev s_law_same : Stmt := topS 34
abbrev nm_law_same : List Str := ["value", "due", "one", "other"]
abbrev sp_law_same : Scope := defScope s_law_same
theorem sc_law_same : FnScope nm_law_same ["value", "due"] (defScope s_law_same) := ⟨rfl, rfl, rfl, by decide +kernel, rfl, by decide +kernel, by decide +kernel⟩
abbrev s_law_heard_time : Stmt := topS 35
abbrev nm_law_heard_time : List Str := ["deed", "told", "wrong"]
abbrev sp_law_heard_time : Scope := defScope s_law_heard_time
theorem sc_law_heard_time : FnScope nm_law_heard_time ["deed"] (defScope s_law_heard_time) := ⟨rfl, rfl, rfl, by decide +kernel, rfl, by decide +kernel, by decide +kernel⟩
abbrev s_law_some_lot : Stmt := topS 36
abbrev nm_law_some_lot : List Str := ["deal", "deep", "form", "turn"]
abbrev sp_law_some_lot : Scope := defScope s_law_some_lot
theorem sc_law_some_lot : FnScope nm_law_some_lot ["deal", "deep"] (defScope s_law_some_lot) := ⟨rfl, rfl, rfl, by decide +kernel, rfl, by decide +kernel, by decide +kernel⟩
abbrev s_law_steps : Stmt := topS 37
abbrev nm_law_steps : List Str := ["lot", "part"]
abbrev sp_law_steps : Scope := defScope s_law_steps
theorem sc_law_steps : FnScope nm_law_steps ["lot"] (defScope s_law_steps) := ⟨rfl, rfl, rfl, by decide +kernel, rfl, by decide +kernel, by decide +kernel⟩
abbrev s_law_lot_of_few : Stmt := topS 38
abbrev nm_law_lot_of_few : List Str := ["deal", "most", "turn", "lot"]
abbrev sp_law_lot_of_few : Scope := defScope s_law_lot_of_few
theorem sc_law_lot_of_few : FnScope nm_law_lot_of_few ["deal", "most"] (defScope s_law_lot_of_few) := ⟨rfl, rfl, rfl, by decide +kernel, rfl, by decide +kernel, by decide +kernel⟩
abbrev s_law_ahead : Stmt := topS 39
abbrev nm_law_ahead : List Str := ["lot", "first", "found", "before", "part", "inner", "step"]
abbrev sp_law_ahead : Scope := defScope s_law_ahead
theorem sc_law_ahead : FnScope nm_law_ahead ["lot", "first"] (defScope s_law_ahead) := ⟨rfl, rfl, rfl, by decide +kernel, rfl, by decide +kernel, by decide +kernel⟩
abbrev s_law_longest : Stmt := topS 40
abbrev nm_law_longest : List Str := ["ahead", "found", "step", "one"]
abbrev sp_law_longest : Scope := defScope s_law_longest
theorem sc_law_longest : FnScope nm_law_longest ["ahead"] (defScope s_law_longest) := ⟨rfl, rfl, rfl, by decide +kernel, rfl, by decide +kernel, by decide +kernel⟩
abbrev s_law_heights : Stmt := topS 41
abbrev nm_law_heights : List Str := ["ahead", "found", "step", "one"]
abbrev sp_law_heights : Scope := defScope s_law_heights
theorem sc_law_heights : FnScope nm_law_heights ["ahead"] (defScope s_law_heights) := ⟨rfl, rfl, rfl, by decide +kernel, rfl, by decide +kernel, by decide +kernel⟩
abbrev s_law_widest : Stmt := topS 42
abbrev nm_law_widest : List Str := ["ahead", "most", "sets", "step", "some", "other"]
abbrev sp_law_widest : Scope := defScope s_law_widest
theorem sc_law_widest : FnScope nm_law_widest ["ahead"] (defScope s_law_widest) := ⟨rfl, rfl, rfl, by decide +kernel, rfl, by decide +kernel, by decide +kernel⟩
abbrev s_law_cut_width : Stmt := topS 43
abbrev nm_law_cut_width : List Str := ["lot", "parts", "part"]
abbrev sp_law_cut_width : Scope := defScope s_law_cut_width
theorem sc_law_cut_width : FnScope nm_law_cut_width ["lot"] (defScope s_law_cut_width) := ⟨rfl, rfl, rfl, by decide +kernel, rfl, by decide +kernel, by decide +kernel⟩
abbrev s_law_many_lot : Stmt := topS 44
abbrev nm_law_many_lot : List Str := ["deal", "form", "many", "lot", "deep", "turn", "wide"]
abbrev sp_law_many_lot : Scope := defScope s_law_many_lot
theorem sc_law_many_lot : FnScope nm_law_many_lot ["deal"] (defScope s_law_many_lot) := ⟨rfl, rfl, rfl, by decide +kernel, rfl, by decide +kernel, by decide +kernel⟩
abbrev s_law : Stmt := topS 45
abbrev nm_law : List Str := ["script", "deal", "turns", "lot", "ahead", "high", "low", "due", "more", "both", "row", "told", "right", "near", "heard", "step", "work_of"]
abbrev sp_law : Scope := defScope s_law
theorem sc_law : FnScope nm_law ["script"] (defScope s_law) := ⟨rfl, rfl, rfl, by decide +kernel, rfl, by decide +kernel, by decide +kernel⟩
abbrev s_LotPlace___init : Stmt := inClass (topS 16) 0
abbrev nm_LotPlace___init : List Str := ["self", "lot", "first", "part"]
abbrev sp_LotPlace___init : Scope := defScope s_LotPlace___init
theorem sc_LotPlace___init : FnScope nm_LotPlace___init ["self", "lot", "first"] (defScope s_LotPlace___init) := ⟨rfl, rfl, rfl, by decide +kernel, rfl, by decide +kernel, by decide +kernel⟩
abbrev si_InvalidModule : Stmt := inClass (topS 3) 0
abbrev si_InvalidValue : Stmt := inClass (topS 4) 0
abbrev si_InvalidState : Stmt := inClass (topS 5) 0
abbrev si_InvalidQuestion : Stmt := inClass (topS 6) 0
abbrev si_Refused : Stmt := inClass (topS 7) 0
def fns : List He.DefD := [⟨("lot_parts", none), "lot_parts", "lot_parts", defArgs s_lot_parts, defBody s_lot_parts, defScope s_lot_parts, [], []⟩,
  ⟨("is_lot_form", none), "is_lot_form", "is_lot_form", defArgs s_is_lot_form, defBody s_is_lot_form, defScope s_is_lot_form, [], []⟩,
  ⟨("is_lot", none), "is_lot", "is_lot", defArgs s_is_lot, defBody s_is_lot, defScope s_is_lot, [], []⟩,
  ⟨("checked_lot", none), "checked_lot", "checked_lot", defArgs s_checked_lot, defBody s_checked_lot, defScope s_checked_lot, [], []⟩,
  ⟨("steps_in", none), "steps_in", "steps_in", defArgs s_steps_in, defBody s_steps_in, defScope s_steps_in, [], []⟩,
  ⟨("edges_of", none), "edges_of", "edges_of", defArgs s_edges_of, defBody s_edges_of, defScope s_edges_of, [], []⟩,
  ⟨("tied", none), "tied", "tied", defArgs s_tied, defBody s_tied, defScope s_tied, [], []⟩,
  ⟨("work_in", none), "work_in", "work_in", defArgs s_work_in, defBody s_work_in, defScope s_work_in, [], []⟩,
  ⟨("span_in", none), "span_in", "span_in", defArgs s_span_in, defBody s_span_in, defScope s_span_in, [], []⟩,
  ⟨("span", none), "span", "span", defArgs s_span, defBody s_span, defScope s_span, [], []⟩,
  ⟨("width_in", none), "width_in", "width_in", defArgs s_width_in, defBody s_width_in, defScope s_width_in, [], []⟩,
  ⟨("width", none), "width", "width", defArgs s_width, defBody s_width, defScope s_width, [], []⟩,
  ⟨("heights_in", none), "heights_in", "heights_in", defArgs s_heights_in, defBody s_heights_in, defScope s_heights_in, [], []⟩,
  ⟨("levels_in", none), "levels_in", "levels_in", defArgs s_levels_in, defBody s_levels_in, defScope s_levels_in, [], []⟩,
  ⟨("heights", none), "heights", "heights", defArgs s_heights, defBody s_heights, defScope s_heights, [], []⟩,
  ⟨("levels", none), "levels", "levels", defArgs s_levels, defBody s_levels, defScope s_levels, [], []⟩,
  ⟨("_law_draw", none), "_law_draw", "_law_draw", defArgs s_law_draw, defBody s_law_draw, defScope s_law_draw, [], []⟩,
  ⟨("_law_any", none), "_law_any", "_law_any", defArgs s_law_any, defBody s_law_any, defScope s_law_any, [], []⟩,
  ⟨("_law_of", none), "_law_of", "_law_of", defArgs s_law_of, defBody s_law_of, defScope s_law_of, [], []⟩,
  ⟨("_law_same", none), "_law_same", "_law_same", defArgs s_law_same, defBody s_law_same, defScope s_law_same, [], []⟩,
  ⟨("_law_heard_time", none), "_law_heard_time", "_law_heard_time", defArgs s_law_heard_time, defBody s_law_heard_time, defScope s_law_heard_time, [], []⟩,
  ⟨("_law_some_lot", none), "_law_some_lot", "_law_some_lot", defArgs s_law_some_lot, defBody s_law_some_lot, defScope s_law_some_lot, [], []⟩,
  ⟨("_law_steps", none), "_law_steps", "_law_steps", defArgs s_law_steps, defBody s_law_steps, defScope s_law_steps, [], []⟩,
  ⟨("_law_lot_of_few", none), "_law_lot_of_few", "_law_lot_of_few", defArgs s_law_lot_of_few, defBody s_law_lot_of_few, defScope s_law_lot_of_few, [], []⟩,
  ⟨("_law_ahead", none), "_law_ahead", "_law_ahead", defArgs s_law_ahead, defBody s_law_ahead, defScope s_law_ahead, [], []⟩,
  ⟨("_law_longest", none), "_law_longest", "_law_longest", defArgs s_law_longest, defBody s_law_longest, defScope s_law_longest, [], []⟩,
  ⟨("_law_heights", none), "_law_heights", "_law_heights", defArgs s_law_heights, defBody s_law_heights, defScope s_law_heights, [], []⟩,
  ⟨("_law_widest", none), "_law_widest", "_law_widest", defArgs s_law_widest, defBody s_law_widest, defScope s_law_widest, [], []⟩,
  ⟨("_law_cut_width", none), "_law_cut_width", "_law_cut_width", defArgs s_law_cut_width, defBody s_law_cut_width, defScope s_law_cut_width, [], []⟩,
  ⟨("_law_many_lot", none), "_law_many_lot", "_law_many_lot", defArgs s_law_many_lot, defBody s_law_many_lot, defScope s_law_many_lot, [], []⟩,
  ⟨("law", none), "law", "law", defArgs s_law, defBody s_law, defScope s_law, [], []⟩,
  ⟨("LotPlace", some "__init__"), "__init__", "LotPlace.__init__", defArgs s_LotPlace___init, defBody s_LotPlace___init, defScope s_LotPlace___init, [], []⟩]
def fas : List He.Fa := [.glo "lot_parts",
  .glo "is_lot_form",
  .glo "is_lot",
  .glo "checked_lot",
  .glo "steps_in",
  .glo "edges_of",
  .glo "tied",
  .glo "work_in",
  .glo "span_in",
  .glo "span",
  .glo "width_in",
  .glo "width",
  .glo "heights_in",
  .glo "levels_in",
  .glo "heights",
  .glo "levels",
  .glo "_law_draw",
  .glo "_law_any",
  .glo "_law_of",
  .glo "_law_same",
  .glo "_law_heard_time",
  .glo "_law_some_lot",
  .glo "_law_steps",
  .glo "_law_lot_of_few",
  .glo "_law_ahead",
  .glo "_law_longest",
  .glo "_law_heights",
  .glo "_law_widest",
  .glo "_law_cut_width",
  .glo "_law_many_lot",
  .glo "law",
  .free "abs",
  .free "bool",
  .free "enumerate",
  .free "int",
  .free "isinstance",
  .free "len",
  .free "list",
  .free "max",
  .free "range",
  .free "sorted",
  .free "str",
  .free "sum",
  .free "tuple",
  .free "zip",
  .int "MOST_STEPS" 600,
  .int "MOST_LOTS" 4000,
  .int "MOST_LOT_DEEP" 60,
  .glo "LotPlace",
  .cls "LotPlace",
  .mkr "LotPlace",
  .noat "LotPlace" "word",
  .noat "LotPlace" "first",
  .noat "LotPlace" "parts",
  .noat "LotPlace" "many",
  .noat "LotPlace" "left",
  .exm "InvalidModule" "InvalidModule" true,
  .exm "InvalidModule" "InvalidValue" false,
  .exm "InvalidModule" "InvalidState" false,
  .exm "InvalidModule" "InvalidQuestion" false,
  .exm "InvalidModule" "Refused" false,
  .exm "InvalidValue" "InvalidModule" false,
  .exm "InvalidValue" "InvalidValue" true,
  .exm "InvalidValue" "InvalidState" false,
  .exm "InvalidValue" "InvalidQuestion" false,
  .exm "InvalidValue" "Refused" false,
  .exm "InvalidState" "InvalidModule" false,
  .exm "InvalidState" "InvalidValue" false,
  .exm "InvalidState" "InvalidState" true,
  .exm "InvalidState" "InvalidQuestion" false,
  .exm "InvalidState" "Refused" false,
  .exm "InvalidQuestion" "InvalidModule" false,
  .exm "InvalidQuestion" "InvalidValue" false,
  .exm "InvalidQuestion" "InvalidState" false,
  .exm "InvalidQuestion" "InvalidQuestion" true,
  .exm "InvalidQuestion" "Refused" false,
  .exm "Refused" "InvalidModule" false,
  .exm "Refused" "InvalidValue" false,
  .exm "Refused" "InvalidState" false,
  .exm "Refused" "InvalidQuestion" false,
  .exm "Refused" "Refused" true]
def xs : List Str := ["InvalidModule", "InvalidValue", "InvalidState", "InvalidQuestion", "Refused"]
def xv : List HH.FnC := [some (("__init__" : Str), "InvalidModule.__init__", defArgs si_InvalidModule, FuncBody.stmts (defBody si_InvalidModule), defScope si_InvalidModule, mainGlobals, [("__class__" : Str)], builtinsNs),
  some (("__init__" : Str), "InvalidValue.__init__", defArgs si_InvalidValue, FuncBody.stmts (defBody si_InvalidValue), defScope si_InvalidValue, mainGlobals, [("__class__" : Str)], builtinsNs),
  some (("__init__" : Str), "InvalidState.__init__", defArgs si_InvalidState, FuncBody.stmts (defBody si_InvalidState), defScope si_InvalidState, mainGlobals, [("__class__" : Str)], builtinsNs),
  some (("__init__" : Str), "InvalidQuestion.__init__", defArgs si_InvalidQuestion, FuncBody.stmts (defBody si_InvalidQuestion), defScope si_InvalidQuestion, mainGlobals, [("__class__" : Str)], builtinsNs),
  some (("__init__" : Str), "Refused.__init__", defArgs si_Refused, FuncBody.stmts (defBody si_Refused), defScope si_Refused, mainGlobals, [("__class__" : Str)], builtinsNs)]
def tf : List He.Defn := [("law", none)]
def file : Str := PP.main.file
/-- what the head leaves -/
structure Tx (K : PySem.W.Frag) (mg : Str → Option Value) : Prop where
  ex : ∃ h, K.In h ∧ h.Ns mainGlobals mg ∧ HH.SaysH fas fns xs xv tf file h K
section
variable {w : World} {K : PySem.W.Frag} {mg : Str → Option Value} {base : Heap}
theorem Tx.g_lot_parts (T : Tx K mg) : mg "lot_parts" = some (.ref (He.ga K "lot_parts")) := by
  obtain ⟨h, X, G, c⟩ := T.ex
  exact He.glo_ok X G (c.d.fact 0)
theorem Tx.g_is_lot_form (T : Tx K mg) : mg "is_lot_form" = some (.ref (He.ga K "is_lot_form")) := by
  obtain ⟨h, X, G, c⟩ := T.ex
  exact He.glo_ok X G (c.d.fact 1)
theorem Tx.g_is_lot (T : Tx K mg) : mg "is_lot" = some (.ref (He.ga K "is_lot")) := by
  obtain ⟨h, X, G, c⟩ := T.ex
  exact He.glo_ok X G (c.d.fact 2)
theorem Tx.g_checked_lot (T : Tx K mg) : mg "checked_lot" = some (.ref (He.ga K "checked_lot")) := by
  obtain ⟨h, X, G, c⟩ := T.ex
  exact He.glo_ok X G (c.d.fact 3)
theorem Tx.g_steps_in (T : Tx K mg) : mg "steps_in" = some (.ref (He.ga K "steps_in")) := by
  obtain ⟨h, X, G, c⟩ := T.ex
  exact He.glo_ok X G (c.d.fact 4)
theorem Tx.g_edges_of (T : Tx K mg) : mg "edges_of" = some (.ref (He.ga K "edges_of")) := by
  obtain ⟨h, X, G, c⟩ := T.ex
  exact He.glo_ok X G (c.d.fact 5)
theorem Tx.g_tied (T : Tx K mg) : mg "tied" = some (.ref (He.ga K "tied")) := by
  obtain ⟨h, X, G, c⟩ := T.ex
  exact He.glo_ok X G (c.d.fact 6)
theorem Tx.g_work_in (T : Tx K mg) : mg "work_in" = some (.ref (He.ga K "work_in")) := by
  obtain ⟨h, X, G, c⟩ := T.ex
  exact He.glo_ok X G (c.d.fact 7)
theorem Tx.g_span_in (T : Tx K mg) : mg "span_in" = some (.ref (He.ga K "span_in")) := by
  obtain ⟨h, X, G, c⟩ := T.ex
  exact He.glo_ok X G (c.d.fact 8)
theorem Tx.g_span (T : Tx K mg) : mg "span" = some (.ref (He.ga K "span")) := by
  obtain ⟨h, X, G, c⟩ := T.ex
  exact He.glo_ok X G (c.d.fact 9)
theorem Tx.g_width_in (T : Tx K mg) : mg "width_in" = some (.ref (He.ga K "width_in")) := by
  obtain ⟨h, X, G, c⟩ := T.ex
  exact He.glo_ok X G (c.d.fact 10)
theorem Tx.g_width (T : Tx K mg) : mg "width" = some (.ref (He.ga K "width")) := by
  obtain ⟨h, X, G, c⟩ := T.ex
  exact He.glo_ok X G (c.d.fact 11)
theorem Tx.g_heights_in (T : Tx K mg) : mg "heights_in" = some (.ref (He.ga K "heights_in")) := by
  obtain ⟨h, X, G, c⟩ := T.ex
  exact He.glo_ok X G (c.d.fact 12)
theorem Tx.g_levels_in (T : Tx K mg) : mg "levels_in" = some (.ref (He.ga K "levels_in")) := by
  obtain ⟨h, X, G, c⟩ := T.ex
  exact He.glo_ok X G (c.d.fact 13)
theorem Tx.g_heights (T : Tx K mg) : mg "heights" = some (.ref (He.ga K "heights")) := by
  obtain ⟨h, X, G, c⟩ := T.ex
  exact He.glo_ok X G (c.d.fact 14)
theorem Tx.g_levels (T : Tx K mg) : mg "levels" = some (.ref (He.ga K "levels")) := by
  obtain ⟨h, X, G, c⟩ := T.ex
  exact He.glo_ok X G (c.d.fact 15)
theorem Tx.g_law_draw (T : Tx K mg) : mg "_law_draw" = some (.ref (He.ga K "_law_draw")) := by
  obtain ⟨h, X, G, c⟩ := T.ex
  exact He.glo_ok X G (c.d.fact 16)
theorem Tx.g_law_any (T : Tx K mg) : mg "_law_any" = some (.ref (He.ga K "_law_any")) := by
  obtain ⟨h, X, G, c⟩ := T.ex
  exact He.glo_ok X G (c.d.fact 17)
theorem Tx.g_law_of (T : Tx K mg) : mg "_law_of" = some (.ref (He.ga K "_law_of")) := by
  obtain ⟨h, X, G, c⟩ := T.ex
  exact He.glo_ok X G (c.d.fact 18)
theorem Tx.g_law_same (T : Tx K mg) : mg "_law_same" = some (.ref (He.ga K "_law_same")) := by
  obtain ⟨h, X, G, c⟩ := T.ex
  exact He.glo_ok X G (c.d.fact 19)
theorem Tx.g_law_heard_time (T : Tx K mg) : mg "_law_heard_time" = some (.ref (He.ga K "_law_heard_time")) := by
  obtain ⟨h, X, G, c⟩ := T.ex
  exact He.glo_ok X G (c.d.fact 20)
theorem Tx.g_law_some_lot (T : Tx K mg) : mg "_law_some_lot" = some (.ref (He.ga K "_law_some_lot")) := by
  obtain ⟨h, X, G, c⟩ := T.ex
  exact He.glo_ok X G (c.d.fact 21)
theorem Tx.g_law_steps (T : Tx K mg) : mg "_law_steps" = some (.ref (He.ga K "_law_steps")) := by
  obtain ⟨h, X, G, c⟩ := T.ex
  exact He.glo_ok X G (c.d.fact 22)
theorem Tx.g_law_lot_of_few (T : Tx K mg) : mg "_law_lot_of_few" = some (.ref (He.ga K "_law_lot_of_few")) := by
  obtain ⟨h, X, G, c⟩ := T.ex
  exact He.glo_ok X G (c.d.fact 23)
theorem Tx.g_law_ahead (T : Tx K mg) : mg "_law_ahead" = some (.ref (He.ga K "_law_ahead")) := by
  obtain ⟨h, X, G, c⟩ := T.ex
  exact He.glo_ok X G (c.d.fact 24)
theorem Tx.g_law_longest (T : Tx K mg) : mg "_law_longest" = some (.ref (He.ga K "_law_longest")) := by
  obtain ⟨h, X, G, c⟩ := T.ex
  exact He.glo_ok X G (c.d.fact 25)
theorem Tx.g_law_heights (T : Tx K mg) : mg "_law_heights" = some (.ref (He.ga K "_law_heights")) := by
  obtain ⟨h, X, G, c⟩ := T.ex
  exact He.glo_ok X G (c.d.fact 26)
theorem Tx.g_law_widest (T : Tx K mg) : mg "_law_widest" = some (.ref (He.ga K "_law_widest")) := by
  obtain ⟨h, X, G, c⟩ := T.ex
  exact He.glo_ok X G (c.d.fact 27)
theorem Tx.g_law_cut_width (T : Tx K mg) : mg "_law_cut_width" = some (.ref (He.ga K "_law_cut_width")) := by
  obtain ⟨h, X, G, c⟩ := T.ex
  exact He.glo_ok X G (c.d.fact 28)
theorem Tx.g_law_many_lot (T : Tx K mg) : mg "_law_many_lot" = some (.ref (He.ga K "_law_many_lot")) := by
  obtain ⟨h, X, G, c⟩ := T.ex
  exact He.glo_ok X G (c.d.fact 29)
theorem Tx.g_law (T : Tx K mg) : mg "law" = some (.ref (He.ga K "law")) := by
  obtain ⟨h, X, G, c⟩ := T.ex
  exact He.glo_ok X G (c.d.fact 30)
theorem Tx.z_abs (T : Tx K mg) : mg "abs" = none := by
  obtain ⟨h, X, G, c⟩ := T.ex
  exact He.free_ok X G (c.d.fact 31)
theorem Tx.z_bool (T : Tx K mg) : mg "bool" = none := by
  obtain ⟨h, X, G, c⟩ := T.ex
  exact He.free_ok X G (c.d.fact 32)
theorem Tx.z_enumerate (T : Tx K mg) : mg "enumerate" = none := by
  obtain ⟨h, X, G, c⟩ := T.ex
  exact He.free_ok X G (c.d.fact 33)
theorem Tx.z_int (T : Tx K mg) : mg "int" = none := by
  obtain ⟨h, X, G, c⟩ := T.ex
  exact He.free_ok X G (c.d.fact 34)
theorem Tx.z_isinstance (T : Tx K mg) : mg "isinstance" = none := by
  obtain ⟨h, X, G, c⟩ := T.ex
  exact He.free_ok X G (c.d.fact 35)
theorem Tx.z_len (T : Tx K mg) : mg "len" = none := by
  obtain ⟨h, X, G, c⟩ := T.ex
  exact He.free_ok X G (c.d.fact 36)
theorem Tx.z_list (T : Tx K mg) : mg "list" = none := by
  obtain ⟨h, X, G, c⟩ := T.ex
  exact He.free_ok X G (c.d.fact 37)
theorem Tx.z_max (T : Tx K mg) : mg "max" = none := by
  obtain ⟨h, X, G, c⟩ := T.ex
  exact He.free_ok X G (c.d.fact 38)
theorem Tx.z_range (T : Tx K mg) : mg "range" = none := by
  obtain ⟨h, X, G, c⟩ := T.ex
  exact He.free_ok X G (c.d.fact 39)
theorem Tx.z_sorted (T : Tx K mg) : mg "sorted" = none := by
  obtain ⟨h, X, G, c⟩ := T.ex
  exact He.free_ok X G (c.d.fact 40)
theorem Tx.z_str (T : Tx K mg) : mg "str" = none := by
  obtain ⟨h, X, G, c⟩ := T.ex
  exact He.free_ok X G (c.d.fact 41)
theorem Tx.z_sum (T : Tx K mg) : mg "sum" = none := by
  obtain ⟨h, X, G, c⟩ := T.ex
  exact He.free_ok X G (c.d.fact 42)
theorem Tx.z_tuple (T : Tx K mg) : mg "tuple" = none := by
  obtain ⟨h, X, G, c⟩ := T.ex
  exact He.free_ok X G (c.d.fact 43)
theorem Tx.z_zip (T : Tx K mg) : mg "zip" = none := by
  obtain ⟨h, X, G, c⟩ := T.ex
  exact He.free_ok X G (c.d.fact 44)
theorem Tx.i_MOST_STEPS (T : Tx K mg) : ∃ t, mg "MOST_STEPS" = some (.int 600 t) := by
  obtain ⟨h, X, G, c⟩ := T.ex
  exact He.int_ok X G (c.d.fact 45)
theorem Tx.i_MOST_LOTS (T : Tx K mg) : ∃ t, mg "MOST_LOTS" = some (.int 4000 t) := by
  obtain ⟨h, X, G, c⟩ := T.ex
  exact He.int_ok X G (c.d.fact 46)
theorem Tx.i_MOST_LOT_DEEP (T : Tx K mg) : ∃ t, mg "MOST_LOT_DEEP" = some (.int 60 t) := by
  obtain ⟨h, X, G, c⟩ := T.ex
  exact He.int_ok X G (c.d.fact 47)
theorem Tx.g_LotPlace (T : Tx K mg) : mg "LotPlace" = some (.ref (He.ga K "LotPlace")) := by
  obtain ⟨h, X, G, c⟩ := T.ex
  exact He.glo_ok X G (c.d.fact 48)
theorem Tx.cls_LotPlace (T : Tx K mg) : Cls K (He.ga K "LotPlace") := by
  obtain ⟨h, X, G, c⟩ := T.ex
  exact He.cls_ok (c.d.fact 49)
theorem Tx.mk_LotPlace (T : Tx K mg) : Mk K (He.ga K "LotPlace") (He.ma K (He.ga K "LotPlace") "__init__") := by
  obtain ⟨h, X, G, c⟩ := T.ex
  exact He.mkr_ok (c.d.fact 50)
theorem Tx.no_LotPlace_word (T : Tx K mg) : NoAttr K (He.ga K "LotPlace") "word" := by
  obtain ⟨h, X, G, c⟩ := T.ex
  exact He.noat_ok (c.d.fact 51)
theorem Tx.no_LotPlace_first (T : Tx K mg) : NoAttr K (He.ga K "LotPlace") "first" := by
  obtain ⟨h, X, G, c⟩ := T.ex
  exact He.noat_ok (c.d.fact 52)
theorem Tx.no_LotPlace_parts (T : Tx K mg) : NoAttr K (He.ga K "LotPlace") "parts" := by
  obtain ⟨h, X, G, c⟩ := T.ex
  exact He.noat_ok (c.d.fact 53)
theorem Tx.no_LotPlace_many (T : Tx K mg) : NoAttr K (He.ga K "LotPlace") "many" := by
  obtain ⟨h, X, G, c⟩ := T.ex
  exact He.noat_ok (c.d.fact 54)
theorem Tx.no_LotPlace_left (T : Tx K mg) : NoAttr K (He.ga K "LotPlace") "left" := by
  obtain ⟨h, X, G, c⟩ := T.ex
  exact He.noat_ok (c.d.fact 55)
theorem Tx.e_InvalidModule_InvalidModule (T : Tx K mg) : PySem.W.exmOne K (.ref (He.ga K "InvalidModule")) (.ref (He.ga K "InvalidModule")) = some true := by
  obtain ⟨h, X, G, c⟩ := T.ex
  exact He.exm_ok (c.d.fact 56)
theorem Tx.e_InvalidModule_InvalidValue (T : Tx K mg) : PySem.W.exmOne K (.ref (He.ga K "InvalidModule")) (.ref (He.ga K "InvalidValue")) = some false := by
  obtain ⟨h, X, G, c⟩ := T.ex
  exact He.exm_ok (c.d.fact 57)
theorem Tx.e_InvalidModule_InvalidState (T : Tx K mg) : PySem.W.exmOne K (.ref (He.ga K "InvalidModule")) (.ref (He.ga K "InvalidState")) = some false := by
  obtain ⟨h, X, G, c⟩ := T.ex
  exact He.exm_ok (c.d.fact 58)
theorem Tx.e_InvalidModule_InvalidQuestion (T : Tx K mg) : PySem.W.exmOne K (.ref (He.ga K "InvalidModule")) (.ref (He.ga K "InvalidQuestion")) = some false := by
  obtain ⟨h, X, G, c⟩ := T.ex
  exact He.exm_ok (c.d.fact 59)
theorem Tx.e_InvalidModule_Refused (T : Tx K mg) : PySem.W.exmOne K (.ref (He.ga K "InvalidModule")) (.ref (He.ga K "Refused")) = some false := by
  obtain ⟨h, X, G, c⟩ := T.ex
  exact He.exm_ok (c.d.fact 60)
theorem Tx.e_InvalidValue_InvalidModule (T : Tx K mg) : PySem.W.exmOne K (.ref (He.ga K "InvalidValue")) (.ref (He.ga K "InvalidModule")) = some false := by
  obtain ⟨h, X, G, c⟩ := T.ex
  exact He.exm_ok (c.d.fact 61)
theorem Tx.e_InvalidValue_InvalidValue (T : Tx K mg) : PySem.W.exmOne K (.ref (He.ga K "InvalidValue")) (.ref (He.ga K "InvalidValue")) = some true := by
  obtain ⟨h, X, G, c⟩ := T.ex
  exact He.exm_ok (c.d.fact 62)
theorem Tx.e_InvalidValue_InvalidState (T : Tx K mg) : PySem.W.exmOne K (.ref (He.ga K "InvalidValue")) (.ref (He.ga K "InvalidState")) = some false := by
  obtain ⟨h, X, G, c⟩ := T.ex
  exact He.exm_ok (c.d.fact 63)
theorem Tx.e_InvalidValue_InvalidQuestion (T : Tx K mg) : PySem.W.exmOne K (.ref (He.ga K "InvalidValue")) (.ref (He.ga K "InvalidQuestion")) = some false := by
  obtain ⟨h, X, G, c⟩ := T.ex
  exact He.exm_ok (c.d.fact 64)
theorem Tx.e_InvalidValue_Refused (T : Tx K mg) : PySem.W.exmOne K (.ref (He.ga K "InvalidValue")) (.ref (He.ga K "Refused")) = some false := by
  obtain ⟨h, X, G, c⟩ := T.ex
  exact He.exm_ok (c.d.fact 65)
theorem Tx.e_InvalidState_InvalidModule (T : Tx K mg) : PySem.W.exmOne K (.ref (He.ga K "InvalidState")) (.ref (He.ga K "InvalidModule")) = some false := by
  obtain ⟨h, X, G, c⟩ := T.ex
  exact He.exm_ok (c.d.fact 66)
theorem Tx.e_InvalidState_InvalidValue (T : Tx K mg) : PySem.W.exmOne K (.ref (He.ga K "InvalidState")) (.ref (He.ga K "InvalidValue")) = some false := by
  obtain ⟨h, X, G, c⟩ := T.ex
  exact He.exm_ok (c.d.fact 67)
theorem Tx.e_InvalidState_InvalidState (T : Tx K mg) : PySem.W.exmOne K (.ref (He.ga K "InvalidState")) (.ref (He.ga K "InvalidState")) = some true := by
  obtain ⟨h, X, G, c⟩ := T.ex
  exact He.exm_ok (c.d.fact 68)
theorem Tx.e_InvalidState_InvalidQuestion (T : Tx K mg) : PySem.W.exmOne K (.ref (He.ga K "InvalidState")) (.ref (He.ga K "InvalidQuestion")) = some false := by
  obtain ⟨h, X, G, c⟩ := T.ex
  exact He.exm_ok (c.d.fact 69)
theorem Tx.e_InvalidState_Refused (T : Tx K mg) : PySem.W.exmOne K (.ref (He.ga K "InvalidState")) (.ref (He.ga K "Refused")) = some false := by
  obtain ⟨h, X, G, c⟩ := T.ex
  exact He.exm_ok (c.d.fact 70)
theorem Tx.e_InvalidQuestion_InvalidModule (T : Tx K mg) : PySem.W.exmOne K (.ref (He.ga K "InvalidQuestion")) (.ref (He.ga K "InvalidModule")) = some false := by
  obtain ⟨h, X, G, c⟩ := T.ex
  exact He.exm_ok (c.d.fact 71)
theorem Tx.e_InvalidQuestion_InvalidValue (T : Tx K mg) : PySem.W.exmOne K (.ref (He.ga K "InvalidQuestion")) (.ref (He.ga K "InvalidValue")) = some false := by
  obtain ⟨h, X, G, c⟩ := T.ex
  exact He.exm_ok (c.d.fact 72)
theorem Tx.e_InvalidQuestion_InvalidState (T : Tx K mg) : PySem.W.exmOne K (.ref (He.ga K "InvalidQuestion")) (.ref (He.ga K "InvalidState")) = some false := by
  obtain ⟨h, X, G, c⟩ := T.ex
  exact He.exm_ok (c.d.fact 73)
theorem Tx.e_InvalidQuestion_InvalidQuestion (T : Tx K mg) : PySem.W.exmOne K (.ref (He.ga K "InvalidQuestion")) (.ref (He.ga K "InvalidQuestion")) = some true := by
  obtain ⟨h, X, G, c⟩ := T.ex
  exact He.exm_ok (c.d.fact 74)
theorem Tx.e_InvalidQuestion_Refused (T : Tx K mg) : PySem.W.exmOne K (.ref (He.ga K "InvalidQuestion")) (.ref (He.ga K "Refused")) = some false := by
  obtain ⟨h, X, G, c⟩ := T.ex
  exact He.exm_ok (c.d.fact 75)
theorem Tx.e_Refused_InvalidModule (T : Tx K mg) : PySem.W.exmOne K (.ref (He.ga K "Refused")) (.ref (He.ga K "InvalidModule")) = some false := by
  obtain ⟨h, X, G, c⟩ := T.ex
  exact He.exm_ok (c.d.fact 76)
theorem Tx.e_Refused_InvalidValue (T : Tx K mg) : PySem.W.exmOne K (.ref (He.ga K "Refused")) (.ref (He.ga K "InvalidValue")) = some false := by
  obtain ⟨h, X, G, c⟩ := T.ex
  exact He.exm_ok (c.d.fact 77)
theorem Tx.e_Refused_InvalidState (T : Tx K mg) : PySem.W.exmOne K (.ref (He.ga K "Refused")) (.ref (He.ga K "InvalidState")) = some false := by
  obtain ⟨h, X, G, c⟩ := T.ex
  exact He.exm_ok (c.d.fact 78)
theorem Tx.e_Refused_InvalidQuestion (T : Tx K mg) : PySem.W.exmOne K (.ref (He.ga K "Refused")) (.ref (He.ga K "InvalidQuestion")) = some false := by
  obtain ⟨h, X, G, c⟩ := T.ex
  exact He.exm_ok (c.d.fact 79)
theorem Tx.e_Refused_Refused (T : Tx K mg) : PySem.W.exmOne K (.ref (He.ga K "Refused")) (.ref (He.ga K "Refused")) = some true := by
  obtain ⟨h, X, G, c⟩ := T.ex
  exact He.exm_ok (c.d.fact 80)
theorem Tx.xx_InvalidModule (T : Tx K mg) : PySem.HX.AtTxt PP K mg (He.ga K "InvalidModule") (HH.ini K "InvalidModule") ∧ mg "InvalidModule" = some (.ref (He.ga K "InvalidModule")) := by
  obtain ⟨h, X, G, c⟩ := T.ex
  have e : HH.fnC K "InvalidModule" = xv[0] := by
    have q := congrArg (fun l : List HH.FnC => l[0]?) c.v
    exact Option.some.inj q
  refine HH.atTxt_of (file := file) X G (c.x _ (by simp [xs])) ?_ rfl (by decide +kernel)
  rw [e]
  refine ⟨"InvalidModule.__init__", _, _, _, _, _, _, _, _, _, _, _, _, ?_, by rfl⟩
  rfl
theorem Tx.x_InvalidModule (T : Tx K mg) : PySem.HX.AtTxt PP K mg (He.ga K "InvalidModule") (HH.ini K "InvalidModule") := T.xx_InvalidModule.1
theorem Tx.g_InvalidModule (T : Tx K mg) : mg "InvalidModule" = some (.ref (He.ga K "InvalidModule")) := T.xx_InvalidModule.2
theorem Tx.xx_InvalidValue (T : Tx K mg) : PySem.HX.AtTxt PP K mg (He.ga K "InvalidValue") (HH.ini K "InvalidValue") ∧ mg "InvalidValue" = some (.ref (He.ga K "InvalidValue")) := by
  obtain ⟨h, X, G, c⟩ := T.ex
  have e : HH.fnC K "InvalidValue" = xv[1] := by
    have q := congrArg (fun l : List HH.FnC => l[1]?) c.v
    exact Option.some.inj q
  refine HH.atTxt_of (file := file) X G (c.x _ (by simp [xs])) ?_ rfl (by decide +kernel)
  rw [e]
  refine ⟨"InvalidValue.__init__", _, _, _, _, _, _, _, _, _, _, _, _, ?_, by rfl⟩
  rfl
theorem Tx.x_InvalidValue (T : Tx K mg) : PySem.HX.AtTxt PP K mg (He.ga K "InvalidValue") (HH.ini K "InvalidValue") := T.xx_InvalidValue.1
theorem Tx.g_InvalidValue (T : Tx K mg) : mg "InvalidValue" = some (.ref (He.ga K "InvalidValue")) := T.xx_InvalidValue.2
theorem Tx.xx_InvalidState (T : Tx K mg) : PySem.HX.AtTxt PP K mg (He.ga K "InvalidState") (HH.ini K "InvalidState") ∧ mg "InvalidState" = some (.ref (He.ga K "InvalidState")) := by
  obtain ⟨h, X, G, c⟩ := T.ex
  have e : HH.fnC K "InvalidState" = xv[2] := by
    have q := congrArg (fun l : List HH.FnC => l[2]?) c.v
    exact Option.some.inj q
  refine HH.atTxt_of (file := file) X G (c.x _ (by simp [xs])) ?_ rfl (by decide +kernel)
  rw [e]
  refine ⟨"InvalidState.__init__", _, _, _, _, _, _, _, _, _, _, _, _, ?_, by rfl⟩
  rfl
theorem Tx.x_InvalidState (T : Tx K mg) : PySem.HX.AtTxt PP K mg (He.ga K "InvalidState") (HH.ini K "InvalidState") := T.xx_InvalidState.1
theorem Tx.g_InvalidState (T : Tx K mg) : mg "InvalidState" = some (.ref (He.ga K "InvalidState")) := T.xx_InvalidState.2
theorem Tx.xx_InvalidQuestion (T : Tx K mg) : PySem.HX.AtTxt PP K mg (He.ga K "InvalidQuestion") (HH.ini K "InvalidQuestion") ∧ mg "InvalidQuestion" = some (.ref (He.ga K "InvalidQuestion")) := by
  obtain ⟨h, X, G, c⟩ := T.ex
  have e : HH.fnC K "InvalidQuestion" = xv[3] := by
    have q := congrArg (fun l : List HH.FnC => l[3]?) c.v
    exact Option.some.inj q
  refine HH.atTxt_of (file := file) X G (c.x _ (by simp [xs])) ?_ rfl (by decide +kernel)
  rw [e]
  refine ⟨"InvalidQuestion.__init__", _, _, _, _, _, _, _, _, _, _, _, _, ?_, by rfl⟩
  rfl
theorem Tx.x_InvalidQuestion (T : Tx K mg) : PySem.HX.AtTxt PP K mg (He.ga K "InvalidQuestion") (HH.ini K "InvalidQuestion") := T.xx_InvalidQuestion.1
theorem Tx.g_InvalidQuestion (T : Tx K mg) : mg "InvalidQuestion" = some (.ref (He.ga K "InvalidQuestion")) := T.xx_InvalidQuestion.2
theorem Tx.xx_Refused (T : Tx K mg) : PySem.HX.AtTxt PP K mg (He.ga K "Refused") (HH.ini K "Refused") ∧ mg "Refused" = some (.ref (He.ga K "Refused")) := by
  obtain ⟨h, X, G, c⟩ := T.ex
  have e : HH.fnC K "Refused" = xv[4] := by
    have q := congrArg (fun l : List HH.FnC => l[4]?) c.v
    exact Option.some.inj q
  refine HH.atTxt_of (file := file) X G (c.x _ (by simp [xs])) ?_ rfl (by decide +kernel)
  rw [e]
  refine ⟨"Refused.__init__", _, _, _, _, _, _, _, _, _, _, _, _, ?_, by rfl⟩
  rfl
theorem Tx.x_Refused (T : Tx K mg) : PySem.HX.AtTxt PP K mg (He.ga K "Refused") (HH.ini K "Refused") := T.xx_Refused.1
theorem Tx.g_Refused (T : Tx K mg) : mg "Refused" = some (.ref (He.ga K "Refused")) := T.xx_Refused.2
theorem Tx.okx_lot_parts (T : Tx K mg) {CX : CXT} {k : Nat} {sp : Sp} (len : ∀ vs H Q E, sp vs H Q E → vs.length = 1) (hbody : ∀ (cdv : Value) (A : Around) (outer : List Env) (s : Shared) (H : Hp) (vs : List V) (Q : VK) (E : XK), Room k (A.deeper (envOfC "lot_parts" sp_lot_parts s.heap.objs.size (He.ga K "lot_parts") cdv)) → sp vs H Q E →
      ∃ t, PSs (cxOf CX PP w K mg base nm_lot_parts "lot_parts" sp_lot_parts (He.ga K "lot_parts") cdv A outer s H E) (defBody s_lot_parts) t ∧ t { nx := fun _ H' => Q .non H', rt := Q } (start nm_lot_parts vs) H) : Cal PP w K mg base CX "lot_parts" (k + 1) ["lot"] sp := by
  obtain ⟨h, X, G, c⟩ := T.ex
  obtain ⟨fd, F⟩ := c.d.def_ 0 rfl
  exact ⟨_, fd, T.g_lot_parts, F.kp, F.bindsN fun _ _ _ _ _ _ us hl => match us, hl with | [_], _ => rfl, FunD.ok F sc_lot_parts len hbody, let ⟨oc, od, _, _, _, _, _, _, _, sl, _, lk, _⟩ := F.ex; ⟨oc, od, sl, lk⟩⟩
theorem Tx.ok_lot_parts (T : Tx K mg) {k : Nat} {sp : Sp} (len : ∀ vs H Q E, sp vs H Q E → vs.length = 1) (hbody : ∀ (cdv : Value) (A : Around) (outer : List Env) (s : Shared) (H : Hp) (vs : List V) (Q : VK) (E : XK), Room k (A.deeper (envOfC "lot_parts" sp_lot_parts s.heap.objs.size (He.ga K "lot_parts") cdv)) → sp vs H Q E →
      ∃ t, PSs (cxOf CX0 PP w K mg base nm_lot_parts "lot_parts" sp_lot_parts (He.ga K "lot_parts") cdv A outer s H E).nox (defBody s_lot_parts) t ∧ t { nx := fun _ H' => Q .non H', rt := Q } (start nm_lot_parts vs) H) : Cal PP w K mg base CX0 "lot_parts" (k + 1) ["lot"] sp :=
  T.okx_lot_parts len fun cdv A outer s H vs Q E hr h => let ⟨t, a, b⟩ := hbody cdv A outer s H vs Q E hr h; ⟨t, a.nox, b⟩
theorem Tx.okx_is_lot_form (T : Tx K mg) {CX : CXT} {k : Nat} {sp : Sp} (len : ∀ vs H Q E, sp vs H Q E → vs.length = 1) (hbody : ∀ (cdv : Value) (A : Around) (outer : List Env) (s : Shared) (H : Hp) (vs : List V) (Q : VK) (E : XK), Room k (A.deeper (envOfC "is_lot_form" sp_is_lot_form s.heap.objs.size (He.ga K "is_lot_form") cdv)) → sp vs H Q E →
      ∃ t, PSs (cxOf CX PP w K mg base nm_is_lot_form "is_lot_form" sp_is_lot_form (He.ga K "is_lot_form") cdv A outer s H E) (defBody s_is_lot_form) t ∧ t { nx := fun _ H' => Q .non H', rt := Q } (start nm_is_lot_form vs) H) : Cal PP w K mg base CX "is_lot_form" (k + 1) ["value"] sp := by
  obtain ⟨h, X, G, c⟩ := T.ex
  obtain ⟨fd, F⟩ := c.d.def_ 1 rfl
  exact ⟨_, fd, T.g_is_lot_form, F.kp, F.bindsN fun _ _ _ _ _ _ us hl => match us, hl with | [_], _ => rfl, FunD.ok F sc_is_lot_form len hbody, let ⟨oc, od, _, _, _, _, _, _, _, sl, _, lk, _⟩ := F.ex; ⟨oc, od, sl, lk⟩⟩
theorem Tx.ok_is_lot_form (T : Tx K mg) {k : Nat} {sp : Sp} (len : ∀ vs H Q E, sp vs H Q E → vs.length = 1) (hbody : ∀ (cdv : Value) (A : Around) (outer : List Env) (s : Shared) (H : Hp) (vs : List V) (Q : VK) (E : XK), Room k (A.deeper (envOfC "is_lot_form" sp_is_lot_form s.heap.objs.size (He.ga K "is_lot_form") cdv)) → sp vs H Q E →
      ∃ t, PSs (cxOf CX0 PP w K mg base nm_is_lot_form "is_lot_form" sp_is_lot_form (He.ga K "is_lot_form") cdv A outer s H E).nox (defBody s_is_lot_form) t ∧ t { nx := fun _ H' => Q .non H', rt := Q } (start nm_is_lot_form vs) H) : Cal PP w K mg base CX0 "is_lot_form" (k + 1) ["value"] sp :=
  T.okx_is_lot_form len fun cdv A outer s H vs Q E hr h => let ⟨t, a, b⟩ := hbody cdv A outer s H vs Q E hr h; ⟨t, a.nox, b⟩
theorem Tx.okx_is_lot (T : Tx K mg) {CX : CXT} {k : Nat} {sp : Sp} (len : ∀ vs H Q E, sp vs H Q E → vs.length = 1) (hbody : ∀ (cdv : Value) (A : Around) (outer : List Env) (s : Shared) (H : Hp) (vs : List V) (Q : VK) (E : XK), Room k (A.deeper (envOfC "is_lot" sp_is_lot s.heap.objs.size (He.ga K "is_lot") cdv)) → sp vs H Q E →
      ∃ t, PSs (cxOf CX PP w K mg base nm_is_lot "is_lot" sp_is_lot (He.ga K "is_lot") cdv A outer s H E) (defBody s_is_lot) t ∧ t { nx := fun _ H' => Q .non H', rt := Q } (start nm_is_lot vs) H) : Cal PP w K mg base CX "is_lot" (k + 1) ["value"] sp := by
  obtain ⟨h, X, G, c⟩ := T.ex
  obtain ⟨fd, F⟩ := c.d.def_ 2 rfl
  exact ⟨_, fd, T.g_is_lot, F.kp, F.bindsN fun _ _ _ _ _ _ us hl => match us, hl with | [_], _ => rfl, FunD.ok F sc_is_lot len hbody, let ⟨oc, od, _, _, _, _, _, _, _, sl, _, lk, _⟩ := F.ex; ⟨oc, od, sl, lk⟩⟩
theorem Tx.ok_is_lot (T : Tx K mg) {k : Nat} {sp : Sp} (len : ∀ vs H Q E, sp vs H Q E → vs.length = 1) (hbody : ∀ (cdv : Value) (A : Around) (outer : List Env) (s : Shared) (H : Hp) (vs : List V) (Q : VK) (E : XK), Room k (A.deeper (envOfC "is_lot" sp_is_lot s.heap.objs.size (He.ga K "is_lot") cdv)) → sp vs H Q E →
      ∃ t, PSs (cxOf CX0 PP w K mg base nm_is_lot "is_lot" sp_is_lot (He.ga K "is_lot") cdv A outer s H E).nox (defBody s_is_lot) t ∧ t { nx := fun _ H' => Q .non H', rt := Q } (start nm_is_lot vs) H) : Cal PP w K mg base CX0 "is_lot" (k + 1) ["value"] sp :=
  T.okx_is_lot len fun cdv A outer s H vs Q E hr h => let ⟨t, a, b⟩ := hbody cdv A outer s H vs Q E hr h; ⟨t, a.nox, b⟩
theorem Tx.kw0_is_lot (T : Tx K mg) {CX : CXT} {k : Nat} {sp : Sp} (C : Cal PP w K mg base CX "is_lot" k ["value"] sp) : CalK PP w K mg base CX "is_lot" k ["value"] ["value"] (fun l => match l with | [x0] => [x0] | _ => []) sp := by
  obtain ⟨h, X, G, c⟩ := T.ex
  obtain ⟨fd, F⟩ := c.d.def_ 2 rfl
  refine C.kw (gV := fun l => match l with | [x0] => [x0] | _ => []) T.g_is_lot F (fun l => match l with | [x0] => [x0] | _ => []) (fun {zs ws} r => ?_) fun _ _ _ _ _ _ ws hl => match ws, hl with | [_], _ => rfl
  rcases r with _ | ⟨r0, r⟩
  · exact .nil
  rcases r with _ | ⟨r1, r⟩
  · exact .cons r0 (.nil)
  · exact .nil
theorem Tx.okx_checked_lot (T : Tx K mg) {CX : CXT} {k : Nat} {sp : Sp} (len : ∀ vs H Q E, sp vs H Q E → vs.length = 2) (hbody : ∀ (cdv : Value) (A : Around) (outer : List Env) (s : Shared) (H : Hp) (vs : List V) (Q : VK) (E : XK), Room k (A.deeper (envOfC "checked_lot" sp_checked_lot s.heap.objs.size (He.ga K "checked_lot") cdv)) → sp vs H Q E →
      ∃ t, PSs (cxOf CX PP w K mg base nm_checked_lot "checked_lot" sp_checked_lot (He.ga K "checked_lot") cdv A outer s H E) (defBody s_checked_lot) t ∧ t { nx := fun _ H' => Q .non H', rt := Q } (start nm_checked_lot vs) H) : Cal PP w K mg base CX "checked_lot" (k + 1) ["value", "at"] sp := by
  obtain ⟨h, X, G, c⟩ := T.ex
  obtain ⟨fd, F⟩ := c.d.def_ 3 rfl
  exact ⟨_, fd, T.g_checked_lot, F.kp, F.bindsN fun _ _ _ _ _ _ us hl => match us, hl with | [_, _], _ => rfl, FunD.ok F sc_checked_lot len hbody, let ⟨oc, od, _, _, _, _, _, _, _, sl, _, lk, _⟩ := F.ex; ⟨oc, od, sl, lk⟩⟩
theorem Tx.ok_checked_lot (T : Tx K mg) {k : Nat} {sp : Sp} (len : ∀ vs H Q E, sp vs H Q E → vs.length = 2) (hbody : ∀ (cdv : Value) (A : Around) (outer : List Env) (s : Shared) (H : Hp) (vs : List V) (Q : VK) (E : XK), Room k (A.deeper (envOfC "checked_lot" sp_checked_lot s.heap.objs.size (He.ga K "checked_lot") cdv)) → sp vs H Q E →
      ∃ t, PSs (cxOf CX0 PP w K mg base nm_checked_lot "checked_lot" sp_checked_lot (He.ga K "checked_lot") cdv A outer s H E).nox (defBody s_checked_lot) t ∧ t { nx := fun _ H' => Q .non H', rt := Q } (start nm_checked_lot vs) H) : Cal PP w K mg base CX0 "checked_lot" (k + 1) ["value", "at"] sp :=
  T.okx_checked_lot len fun cdv A outer s H vs Q E hr h => let ⟨t, a, b⟩ := hbody cdv A outer s H vs Q E hr h; ⟨t, a.nox, b⟩
theorem Tx.okx_steps_in (T : Tx K mg) {CX : CXT} {k : Nat} {sp : Sp} (len : ∀ vs H Q E, sp vs H Q E → vs.length = 1) (hbody : ∀ (cdv : Value) (A : Around) (outer : List Env) (s : Shared) (H : Hp) (vs : List V) (Q : VK) (E : XK), Room k (A.deeper (envOfC "steps_in" sp_steps_in s.heap.objs.size (He.ga K "steps_in") cdv)) → sp vs H Q E →
      ∃ t, PSs (cxOf CX PP w K mg base nm_steps_in "steps_in" sp_steps_in (He.ga K "steps_in") cdv A outer s H E) (defBody s_steps_in) t ∧ t { nx := fun _ H' => Q .non H', rt := Q } (start nm_steps_in vs) H) : Cal PP w K mg base CX "steps_in" (k + 1) ["lot"] sp := by
  obtain ⟨h, X, G, c⟩ := T.ex
  obtain ⟨fd, F⟩ := c.d.def_ 4 rfl
  exact ⟨_, fd, T.g_steps_in, F.kp, F.bindsN fun _ _ _ _ _ _ us hl => match us, hl with | [_], _ => rfl, FunD.ok F sc_steps_in len hbody, let ⟨oc, od, _, _, _, _, _, _, _, sl, _, lk, _⟩ := F.ex; ⟨oc, od, sl, lk⟩⟩
theorem Tx.ok_steps_in (T : Tx K mg) {k : Nat} {sp : Sp} (len : ∀ vs H Q E, sp vs H Q E → vs.length = 1) (hbody : ∀ (cdv : Value) (A : Around) (outer : List Env) (s : Shared) (H : Hp) (vs : List V) (Q : VK) (E : XK), Room k (A.deeper (envOfC "steps_in" sp_steps_in s.heap.objs.size (He.ga K "steps_in") cdv)) → sp vs H Q E →
      ∃ t, PSs (cxOf CX0 PP w K mg base nm_steps_in "steps_in" sp_steps_in (He.ga K "steps_in") cdv A outer s H E).nox (defBody s_steps_in) t ∧ t { nx := fun _ H' => Q .non H', rt := Q } (start nm_steps_in vs) H) : Cal PP w K mg base CX0 "steps_in" (k + 1) ["lot"] sp :=
  T.okx_steps_in len fun cdv A outer s H vs Q E hr h => let ⟨t, a, b⟩ := hbody cdv A outer s H vs Q E hr h; ⟨t, a.nox, b⟩
theorem Tx.okx_edges_of (T : Tx K mg) {CX : CXT} {k : Nat} {sp : Sp} (len : ∀ vs H Q E, sp vs H Q E → vs.length = 1) (hbody : ∀ (cdv : Value) (A : Around) (outer : List Env) (s : Shared) (H : Hp) (vs : List V) (Q : VK) (E : XK), Room k (A.deeper (envOfC "edges_of" sp_edges_of s.heap.objs.size (He.ga K "edges_of") cdv)) → sp vs H Q E →
      ∃ t, PSs (cxOf CX PP w K mg base nm_edges_of "edges_of" sp_edges_of (He.ga K "edges_of") cdv A outer s H E) (defBody s_edges_of) t ∧ t { nx := fun _ H' => Q .non H', rt := Q } (start nm_edges_of vs) H) : Cal PP w K mg base CX "edges_of" (k + 1) ["lot"] sp := by
  obtain ⟨h, X, G, c⟩ := T.ex
  obtain ⟨fd, F⟩ := c.d.def_ 5 rfl
  exact ⟨_, fd, T.g_edges_of, F.kp, F.bindsN fun _ _ _ _ _ _ us hl => match us, hl with | [_], _ => rfl, FunD.ok F sc_edges_of len hbody, let ⟨oc, od, _, _, _, _, _, _, _, sl, _, lk, _⟩ := F.ex; ⟨oc, od, sl, lk⟩⟩
theorem Tx.ok_edges_of (T : Tx K mg) {k : Nat} {sp : Sp} (len : ∀ vs H Q E, sp vs H Q E → vs.length = 1) (hbody : ∀ (cdv : Value) (A : Around) (outer : List Env) (s : Shared) (H : Hp) (vs : List V) (Q : VK) (E : XK), Room k (A.deeper (envOfC "edges_of" sp_edges_of s.heap.objs.size (He.ga K "edges_of") cdv)) → sp vs H Q E →
      ∃ t, PSs (cxOf CX0 PP w K mg base nm_edges_of "edges_of" sp_edges_of (He.ga K "edges_of") cdv A outer s H E).nox (defBody s_edges_of) t ∧ t { nx := fun _ H' => Q .non H', rt := Q } (start nm_edges_of vs) H) : Cal PP w K mg base CX0 "edges_of" (k + 1) ["lot"] sp :=
  T.okx_edges_of len fun cdv A outer s H vs Q E hr h => let ⟨t, a, b⟩ := hbody cdv A outer s H vs Q E hr h; ⟨t, a.nox, b⟩
theorem Tx.okx_tied (T : Tx K mg) {CX : CXT} {k : Nat} {sp : Sp} (len : ∀ vs H Q E, sp vs H Q E → vs.length = 2) (hbody : ∀ (cdv : Value) (A : Around) (outer : List Env) (s : Shared) (H : Hp) (vs : List V) (Q : VK) (E : XK), Room k (A.deeper (envOfC "tied" sp_tied s.heap.objs.size (He.ga K "tied") cdv)) → sp vs H Q E →
      ∃ t, PSs (cxOf CX PP w K mg base nm_tied "tied" sp_tied (He.ga K "tied") cdv A outer s H E) (defBody s_tied) t ∧ t { nx := fun _ H' => Q .non H', rt := Q } (start nm_tied vs) H) : Cal PP w K mg base CX "tied" (k + 1) ["place", "behind"] sp := by
  obtain ⟨h, X, G, c⟩ := T.ex
  obtain ⟨fd, F⟩ := c.d.def_ 6 rfl
  exact ⟨_, fd, T.g_tied, F.kp, F.bindsN fun _ _ _ _ _ _ us hl => match us, hl with | [_, _], _ => rfl, FunD.ok F sc_tied len hbody, let ⟨oc, od, _, _, _, _, _, _, _, sl, _, lk, _⟩ := F.ex; ⟨oc, od, sl, lk⟩⟩
theorem Tx.ok_tied (T : Tx K mg) {k : Nat} {sp : Sp} (len : ∀ vs H Q E, sp vs H Q E → vs.length = 2) (hbody : ∀ (cdv : Value) (A : Around) (outer : List Env) (s : Shared) (H : Hp) (vs : List V) (Q : VK) (E : XK), Room k (A.deeper (envOfC "tied" sp_tied s.heap.objs.size (He.ga K "tied") cdv)) → sp vs H Q E →
      ∃ t, PSs (cxOf CX0 PP w K mg base nm_tied "tied" sp_tied (He.ga K "tied") cdv A outer s H E).nox (defBody s_tied) t ∧ t { nx := fun _ H' => Q .non H', rt := Q } (start nm_tied vs) H) : Cal PP w K mg base CX0 "tied" (k + 1) ["place", "behind"] sp :=
  T.okx_tied len fun cdv A outer s H vs Q E hr h => let ⟨t, a, b⟩ := hbody cdv A outer s H vs Q E hr h; ⟨t, a.nox, b⟩
theorem Tx.okx_work_in (T : Tx K mg) {CX : CXT} {k : Nat} {sp : Sp} (len : ∀ vs H Q E, sp vs H Q E → vs.length = 1) (hbody : ∀ (cdv : Value) (A : Around) (outer : List Env) (s : Shared) (H : Hp) (vs : List V) (Q : VK) (E : XK), Room k (A.deeper (envOfC "work_in" sp_work_in s.heap.objs.size (He.ga K "work_in") cdv)) → sp vs H Q E →
      ∃ t, PSs (cxOf CX PP w K mg base nm_work_in "work_in" sp_work_in (He.ga K "work_in") cdv A outer s H E) (defBody s_work_in) t ∧ t { nx := fun _ H' => Q .non H', rt := Q } (start nm_work_in vs) H) : Cal PP w K mg base CX "work_in" (k + 1) ["lot"] sp := by
  obtain ⟨h, X, G, c⟩ := T.ex
  obtain ⟨fd, F⟩ := c.d.def_ 7 rfl
  exact ⟨_, fd, T.g_work_in, F.kp, F.bindsN fun _ _ _ _ _ _ us hl => match us, hl with | [_], _ => rfl, FunD.ok F sc_work_in len hbody, let ⟨oc, od, _, _, _, _, _, _, _, sl, _, lk, _⟩ := F.ex; ⟨oc, od, sl, lk⟩⟩
theorem Tx.ok_work_in (T : Tx K mg) {k : Nat} {sp : Sp} (len : ∀ vs H Q E, sp vs H Q E → vs.length = 1) (hbody : ∀ (cdv : Value) (A : Around) (outer : List Env) (s : Shared) (H : Hp) (vs : List V) (Q : VK) (E : XK), Room k (A.deeper (envOfC "work_in" sp_work_in s.heap.objs.size (He.ga K "work_in") cdv)) → sp vs H Q E →
      ∃ t, PSs (cxOf CX0 PP w K mg base nm_work_in "work_in" sp_work_in (He.ga K "work_in") cdv A outer s H E).nox (defBody s_work_in) t ∧ t { nx := fun _ H' => Q .non H', rt := Q } (start nm_work_in vs) H) : Cal PP w K mg base CX0 "work_in" (k + 1) ["lot"] sp :=
  T.okx_work_in len fun cdv A outer s H vs Q E hr h => let ⟨t, a, b⟩ := hbody cdv A outer s H vs Q E hr h; ⟨t, a.nox, b⟩
theorem Tx.kw0_work_in (T : Tx K mg) {CX : CXT} {k : Nat} {sp : Sp} (C : Cal PP w K mg base CX "work_in" k ["lot"] sp) : CalK PP w K mg base CX "work_in" k ["lot"] ["lot"] (fun l => match l with | [x0] => [x0] | _ => []) sp := by
  obtain ⟨h, X, G, c⟩ := T.ex
  obtain ⟨fd, F⟩ := c.d.def_ 7 rfl
  refine C.kw (gV := fun l => match l with | [x0] => [x0] | _ => []) T.g_work_in F (fun l => match l with | [x0] => [x0] | _ => []) (fun {zs ws} r => ?_) fun _ _ _ _ _ _ ws hl => match ws, hl with | [_], _ => rfl
  rcases r with _ | ⟨r0, r⟩
  · exact .nil
  rcases r with _ | ⟨r1, r⟩
  · exact .cons r0 (.nil)
  · exact .nil
theorem Tx.okx_span_in (T : Tx K mg) {CX : CXT} {k : Nat} {sp : Sp} (len : ∀ vs H Q E, sp vs H Q E → vs.length = 1) (hbody : ∀ (cdv : Value) (A : Around) (outer : List Env) (s : Shared) (H : Hp) (vs : List V) (Q : VK) (E : XK), Room k (A.deeper (envOfC "span_in" sp_span_in s.heap.objs.size (He.ga K "span_in") cdv)) → sp vs H Q E →
      ∃ t, PSs (cxOf CX PP w K mg base nm_span_in "span_in" sp_span_in (He.ga K "span_in") cdv A outer s H E) (defBody s_span_in) t ∧ t { nx := fun _ H' => Q .non H', rt := Q } (start nm_span_in vs) H) : Cal PP w K mg base CX "span_in" (k + 1) ["lot"] sp := by
  obtain ⟨h, X, G, c⟩ := T.ex
  obtain ⟨fd, F⟩ := c.d.def_ 8 rfl
  exact ⟨_, fd, T.g_span_in, F.kp, F.bindsN fun _ _ _ _ _ _ us hl => match us, hl with | [_], _ => rfl, FunD.ok F sc_span_in len hbody, let ⟨oc, od, _, _, _, _, _, _, _, sl, _, lk, _⟩ := F.ex; ⟨oc, od, sl, lk⟩⟩
theorem Tx.ok_span_in (T : Tx K mg) {k : Nat} {sp : Sp} (len : ∀ vs H Q E, sp vs H Q E → vs.length = 1) (hbody : ∀ (cdv : Value) (A : Around) (outer : List Env) (s : Shared) (H : Hp) (vs : List V) (Q : VK) (E : XK), Room k (A.deeper (envOfC "span_in" sp_span_in s.heap.objs.size (He.ga K "span_in") cdv)) → sp vs H Q E →
      ∃ t, PSs (cxOf CX0 PP w K mg base nm_span_in "span_in" sp_span_in (He.ga K "span_in") cdv A outer s H E).nox (defBody s_span_in) t ∧ t { nx := fun _ H' => Q .non H', rt := Q } (start nm_span_in vs) H) : Cal PP w K mg base CX0 "span_in" (k + 1) ["lot"] sp :=
  T.okx_span_in len fun cdv A outer s H vs Q E hr h => let ⟨t, a, b⟩ := hbody cdv A outer s H vs Q E hr h; ⟨t, a.nox, b⟩
theorem Tx.okx_span (T : Tx K mg) {CX : CXT} {k : Nat} {sp : Sp} (len : ∀ vs H Q E, sp vs H Q E → vs.length = 1) (hbody : ∀ (cdv : Value) (A : Around) (outer : List Env) (s : Shared) (H : Hp) (vs : List V) (Q : VK) (E : XK), Room k (A.deeper (envOfC "span" sp_span s.heap.objs.size (He.ga K "span") cdv)) → sp vs H Q E →
      ∃ t, PSs (cxOf CX PP w K mg base nm_span "span" sp_span (He.ga K "span") cdv A outer s H E) (defBody s_span) t ∧ t { nx := fun _ H' => Q .non H', rt := Q } (start nm_span vs) H) : Cal PP w K mg base CX "span" (k + 1) ["lot"] sp := by
  obtain ⟨h, X, G, c⟩ := T.ex
  obtain ⟨fd, F⟩ := c.d.def_ 9 rfl
  exact ⟨_, fd, T.g_span, F.kp, F.bindsN fun _ _ _ _ _ _ us hl => match us, hl with | [_], _ => rfl, FunD.ok F sc_span len hbody, let ⟨oc, od, _, _, _, _, _, _, _, sl, _, lk, _⟩ := F.ex; ⟨oc, od, sl, lk⟩⟩
theorem Tx.ok_span (T : Tx K mg) {k : Nat} {sp : Sp} (len : ∀ vs H Q E, sp vs H Q E → vs.length = 1) (hbody : ∀ (cdv : Value) (A : Around) (outer : List Env) (s : Shared) (H : Hp) (vs : List V) (Q : VK) (E : XK), Room k (A.deeper (envOfC "span" sp_span s.heap.objs.size (He.ga K "span") cdv)) → sp vs H Q E →
      ∃ t, PSs (cxOf CX0 PP w K mg base nm_span "span" sp_span (He.ga K "span") cdv A outer s H E).nox (defBody s_span) t ∧ t { nx := fun _ H' => Q .non H', rt := Q } (start nm_span vs) H) : Cal PP w K mg base CX0 "span" (k + 1) ["lot"] sp :=
  T.okx_span len fun cdv A outer s H vs Q E hr h => let ⟨t, a, b⟩ := hbody cdv A outer s H vs Q E hr h; ⟨t, a.nox, b⟩
theorem Tx.kw0_span (T : Tx K mg) {CX : CXT} {k : Nat} {sp : Sp} (C : Cal PP w K mg base CX "span" k ["lot"] sp) : CalK PP w K mg base CX "span" k ["lot"] ["lot"] (fun l => match l with | [x0] => [x0] | _ => []) sp := by
  obtain ⟨h, X, G, c⟩ := T.ex
  obtain ⟨fd, F⟩ := c.d.def_ 9 rfl
  refine C.kw (gV := fun l => match l with | [x0] => [x0] | _ => []) T.g_span F (fun l => match l with | [x0] => [x0] | _ => []) (fun {zs ws} r => ?_) fun _ _ _ _ _ _ ws hl => match ws, hl with | [_], _ => rfl
  rcases r with _ | ⟨r0, r⟩
  · exact .nil
  rcases r with _ | ⟨r1, r⟩
  · exact .cons r0 (.nil)
  · exact .nil
theorem Tx.okx_width_in (T : Tx K mg) {CX : CXT} {k : Nat} {sp : Sp} (len : ∀ vs H Q E, sp vs H Q E → vs.length = 1) (hbody : ∀ (cdv : Value) (A : Around) (outer : List Env) (s : Shared) (H : Hp) (vs : List V) (Q : VK) (E : XK), Room k (A.deeper (envOfC "width_in" sp_width_in s.heap.objs.size (He.ga K "width_in") cdv)) → sp vs H Q E →
      ∃ t, PSs (cxOf CX PP w K mg base nm_width_in "width_in" sp_width_in (He.ga K "width_in") cdv A outer s H E) (defBody s_width_in) t ∧ t { nx := fun _ H' => Q .non H', rt := Q } (start nm_width_in vs) H) : Cal PP w K mg base CX "width_in" (k + 1) ["lot"] sp := by
  obtain ⟨h, X, G, c⟩ := T.ex
  obtain ⟨fd, F⟩ := c.d.def_ 10 rfl
  exact ⟨_, fd, T.g_width_in, F.kp, F.bindsN fun _ _ _ _ _ _ us hl => match us, hl with | [_], _ => rfl, FunD.ok F sc_width_in len hbody, let ⟨oc, od, _, _, _, _, _, _, _, sl, _, lk, _⟩ := F.ex; ⟨oc, od, sl, lk⟩⟩
theorem Tx.ok_width_in (T : Tx K mg) {k : Nat} {sp : Sp} (len : ∀ vs H Q E, sp vs H Q E → vs.length = 1) (hbody : ∀ (cdv : Value) (A : Around) (outer : List Env) (s : Shared) (H : Hp) (vs : List V) (Q : VK) (E : XK), Room k (A.deeper (envOfC "width_in" sp_width_in s.heap.objs.size (He.ga K "width_in") cdv)) → sp vs H Q E →
      ∃ t, PSs (cxOf CX0 PP w K mg base nm_width_in "width_in" sp_width_in (He.ga K "width_in") cdv A outer s H E).nox (defBody s_width_in) t ∧ t { nx := fun _ H' => Q .non H', rt := Q } (start nm_width_in vs) H) : Cal PP w K mg base CX0 "width_in" (k + 1) ["lot"] sp :=
  T.okx_width_in len fun cdv A outer s H vs Q E hr h => let ⟨t, a, b⟩ := hbody cdv A outer s H vs Q E hr h; ⟨t, a.nox, b⟩
theorem Tx.okx_width (T : Tx K mg) {CX : CXT} {k : Nat} {sp : Sp} (len : ∀ vs H Q E, sp vs H Q E → vs.length = 1) (hbody : ∀ (cdv : Value) (A : Around) (outer : List Env) (s : Shared) (H : Hp) (vs : List V) (Q : VK) (E : XK), Room k (A.deeper (envOfC "width" sp_width s.heap.objs.size (He.ga K "width") cdv)) → sp vs H Q E →
      ∃ t, PSs (cxOf CX PP w K mg base nm_width "width" sp_width (He.ga K "width") cdv A outer s H E) (defBody s_width) t ∧ t { nx := fun _ H' => Q .non H', rt := Q } (start nm_width vs) H) : Cal PP w K mg base CX "width" (k + 1) ["lot"] sp := by
  obtain ⟨h, X, G, c⟩ := T.ex
  obtain ⟨fd, F⟩ := c.d.def_ 11 rfl
  exact ⟨_, fd, T.g_width, F.kp, F.bindsN fun _ _ _ _ _ _ us hl => match us, hl with | [_], _ => rfl, FunD.ok F sc_width len hbody, let ⟨oc, od, _, _, _, _, _, _, _, sl, _, lk, _⟩ := F.ex; ⟨oc, od, sl, lk⟩⟩
theorem Tx.ok_width (T : Tx K mg) {k : Nat} {sp : Sp} (len : ∀ vs H Q E, sp vs H Q E → vs.length = 1) (hbody : ∀ (cdv : Value) (A : Around) (outer : List Env) (s : Shared) (H : Hp) (vs : List V) (Q : VK) (E : XK), Room k (A.deeper (envOfC "width" sp_width s.heap.objs.size (He.ga K "width") cdv)) → sp vs H Q E →
      ∃ t, PSs (cxOf CX0 PP w K mg base nm_width "width" sp_width (He.ga K "width") cdv A outer s H E).nox (defBody s_width) t ∧ t { nx := fun _ H' => Q .non H', rt := Q } (start nm_width vs) H) : Cal PP w K mg base CX0 "width" (k + 1) ["lot"] sp :=
  T.okx_width len fun cdv A outer s H vs Q E hr h => let ⟨t, a, b⟩ := hbody cdv A outer s H vs Q E hr h; ⟨t, a.nox, b⟩
theorem Tx.kw0_width (T : Tx K mg) {CX : CXT} {k : Nat} {sp : Sp} (C : Cal PP w K mg base CX "width" k ["lot"] sp) : CalK PP w K mg base CX "width" k ["lot"] ["lot"] (fun l => match l with | [x0] => [x0] | _ => []) sp := by
  obtain ⟨h, X, G, c⟩ := T.ex
  obtain ⟨fd, F⟩ := c.d.def_ 11 rfl
  refine C.kw (gV := fun l => match l with | [x0] => [x0] | _ => []) T.g_width F (fun l => match l with | [x0] => [x0] | _ => []) (fun {zs ws} r => ?_) fun _ _ _ _ _ _ ws hl => match ws, hl with | [_], _ => rfl
  rcases r with _ | ⟨r0, r⟩
  · exact .nil
  rcases r with _ | ⟨r1, r⟩
  · exact .cons r0 (.nil)
  · exact .nil
theorem Tx.okx_heights_in (T : Tx K mg) {CX : CXT} {k : Nat} {sp : Sp} (len : ∀ vs H Q E, sp vs H Q E → vs.length = 1) (hbody : ∀ (cdv : Value) (A : Around) (outer : List Env) (s : Shared) (H : Hp) (vs : List V) (Q : VK) (E : XK), Room k (A.deeper (envOfC "heights_in" sp_heights_in s.heap.objs.size (He.ga K "heights_in") cdv)) → sp vs H Q E →
      ∃ t, PSs (cxOf CX PP w K mg base nm_heights_in "heights_in" sp_heights_in (He.ga K "heights_in") cdv A outer s H E) (defBody s_heights_in) t ∧ t { nx := fun _ H' => Q .non H', rt := Q } (start nm_heights_in vs) H) : Cal PP w K mg base CX "heights_in" (k + 1) ["lot"] sp := by
  obtain ⟨h, X, G, c⟩ := T.ex
  obtain ⟨fd, F⟩ := c.d.def_ 12 rfl
  exact ⟨_, fd, T.g_heights_in, F.kp, F.bindsN fun _ _ _ _ _ _ us hl => match us, hl with | [_], _ => rfl, FunD.ok F sc_heights_in len hbody, let ⟨oc, od, _, _, _, _, _, _, _, sl, _, lk, _⟩ := F.ex; ⟨oc, od, sl, lk⟩⟩
theorem Tx.ok_heights_in (T : Tx K mg) {k : Nat} {sp : Sp} (len : ∀ vs H Q E, sp vs H Q E → vs.length = 1) (hbody : ∀ (cdv : Value) (A : Around) (outer : List Env) (s : Shared) (H : Hp) (vs : List V) (Q : VK) (E : XK), Room k (A.deeper (envOfC "heights_in" sp_heights_in s.heap.objs.size (He.ga K "heights_in") cdv)) → sp vs H Q E →
      ∃ t, PSs (cxOf CX0 PP w K mg base nm_heights_in "heights_in" sp_heights_in (He.ga K "heights_in") cdv A outer s H E).nox (defBody s_heights_in) t ∧ t { nx := fun _ H' => Q .non H', rt := Q } (start nm_heights_in vs) H) : Cal PP w K mg base CX0 "heights_in" (k + 1) ["lot"] sp :=
  T.okx_heights_in len fun cdv A outer s H vs Q E hr h => let ⟨t, a, b⟩ := hbody cdv A outer s H vs Q E hr h; ⟨t, a.nox, b⟩
theorem Tx.okx_levels_in (T : Tx K mg) {CX : CXT} {k : Nat} {sp : Sp} (len : ∀ vs H Q E, sp vs H Q E → vs.length = 1) (hbody : ∀ (cdv : Value) (A : Around) (outer : List Env) (s : Shared) (H : Hp) (vs : List V) (Q : VK) (E : XK), Room k (A.deeper (envOfC "levels_in" sp_levels_in s.heap.objs.size (He.ga K "levels_in") cdv)) → sp vs H Q E →
      ∃ t, PSs (cxOf CX PP w K mg base nm_levels_in "levels_in" sp_levels_in (He.ga K "levels_in") cdv A outer s H E) (defBody s_levels_in) t ∧ t { nx := fun _ H' => Q .non H', rt := Q } (start nm_levels_in vs) H) : Cal PP w K mg base CX "levels_in" (k + 1) ["lot"] sp := by
  obtain ⟨h, X, G, c⟩ := T.ex
  obtain ⟨fd, F⟩ := c.d.def_ 13 rfl
  exact ⟨_, fd, T.g_levels_in, F.kp, F.bindsN fun _ _ _ _ _ _ us hl => match us, hl with | [_], _ => rfl, FunD.ok F sc_levels_in len hbody, let ⟨oc, od, _, _, _, _, _, _, _, sl, _, lk, _⟩ := F.ex; ⟨oc, od, sl, lk⟩⟩
theorem Tx.ok_levels_in (T : Tx K mg) {k : Nat} {sp : Sp} (len : ∀ vs H Q E, sp vs H Q E → vs.length = 1) (hbody : ∀ (cdv : Value) (A : Around) (outer : List Env) (s : Shared) (H : Hp) (vs : List V) (Q : VK) (E : XK), Room k (A.deeper (envOfC "levels_in" sp_levels_in s.heap.objs.size (He.ga K "levels_in") cdv)) → sp vs H Q E →
      ∃ t, PSs (cxOf CX0 PP w K mg base nm_levels_in "levels_in" sp_levels_in (He.ga K "levels_in") cdv A outer s H E).nox (defBody s_levels_in) t ∧ t { nx := fun _ H' => Q .non H', rt := Q } (start nm_levels_in vs) H) : Cal PP w K mg base CX0 "levels_in" (k + 1) ["lot"] sp :=
  T.okx_levels_in len fun cdv A outer s H vs Q E hr h => let ⟨t, a, b⟩ := hbody cdv A outer s H vs Q E hr h; ⟨t, a.nox, b⟩
theorem Tx.okx_heights (T : Tx K mg) {CX : CXT} {k : Nat} {sp : Sp} (len : ∀ vs H Q E, sp vs H Q E → vs.length = 1) (hbody : ∀ (cdv : Value) (A : Around) (outer : List Env) (s : Shared) (H : Hp) (vs : List V) (Q : VK) (E : XK), Room k (A.deeper (envOfC "heights" sp_heights s.heap.objs.size (He.ga K "heights") cdv)) → sp vs H Q E →
      ∃ t, PSs (cxOf CX PP w K mg base nm_heights "heights" sp_heights (He.ga K "heights") cdv A outer s H E) (defBody s_heights) t ∧ t { nx := fun _ H' => Q .non H', rt := Q } (start nm_heights vs) H) : Cal PP w K mg base CX "heights" (k + 1) ["lot"] sp := by
  obtain ⟨h, X, G, c⟩ := T.ex
  obtain ⟨fd, F⟩ := c.d.def_ 14 rfl
  exact ⟨_, fd, T.g_heights, F.kp, F.bindsN fun _ _ _ _ _ _ us hl => match us, hl with | [_], _ => rfl, FunD.ok F sc_heights len hbody, let ⟨oc, od, _, _, _, _, _, _, _, sl, _, lk, _⟩ := F.ex; ⟨oc, od, sl, lk⟩⟩
theorem Tx.ok_heights (T : Tx K mg) {k : Nat} {sp : Sp} (len : ∀ vs H Q E, sp vs H Q E → vs.length = 1) (hbody : ∀ (cdv : Value) (A : Around) (outer : List Env) (s : Shared) (H : Hp) (vs : List V) (Q : VK) (E : XK), Room k (A.deeper (envOfC "heights" sp_heights s.heap.objs.size (He.ga K "heights") cdv)) → sp vs H Q E →
      ∃ t, PSs (cxOf CX0 PP w K mg base nm_heights "heights" sp_heights (He.ga K "heights") cdv A outer s H E).nox (defBody s_heights) t ∧ t { nx := fun _ H' => Q .non H', rt := Q } (start nm_heights vs) H) : Cal PP w K mg base CX0 "heights" (k + 1) ["lot"] sp :=
  T.okx_heights len fun cdv A outer s H vs Q E hr h => let ⟨t, a, b⟩ := hbody cdv A outer s H vs Q E hr h; ⟨t, a.nox, b⟩
theorem Tx.kw0_heights (T : Tx K mg) {CX : CXT} {k : Nat} {sp : Sp} (C : Cal PP w K mg base CX "heights" k ["lot"] sp) : CalK PP w K mg base CX "heights" k ["lot"] ["lot"] (fun l => match l with | [x0] => [x0] | _ => []) sp := by
  obtain ⟨h, X, G, c⟩ := T.ex
  obtain ⟨fd, F⟩ := c.d.def_ 14 rfl
  refine C.kw (gV := fun l => match l with | [x0] => [x0] | _ => []) T.g_heights F (fun l => match l with | [x0] => [x0] | _ => []) (fun {zs ws} r => ?_) fun _ _ _ _ _ _ ws hl => match ws, hl with | [_], _ => rfl
  rcases r with _ | ⟨r0, r⟩
  · exact .nil
  rcases r with _ | ⟨r1, r⟩
  · exact .cons r0 (.nil)
  · exact .nil
theorem Tx.okx_levels (T : Tx K mg) {CX : CXT} {k : Nat} {sp : Sp} (len : ∀ vs H Q E, sp vs H Q E → vs.length = 1) (hbody : ∀ (cdv : Value) (A : Around) (outer : List Env) (s : Shared) (H : Hp) (vs : List V) (Q : VK) (E : XK), Room k (A.deeper (envOfC "levels" sp_levels s.heap.objs.size (He.ga K "levels") cdv)) → sp vs H Q E →
      ∃ t, PSs (cxOf CX PP w K mg base nm_levels "levels" sp_levels (He.ga K "levels") cdv A outer s H E) (defBody s_levels) t ∧ t { nx := fun _ H' => Q .non H', rt := Q } (start nm_levels vs) H) : Cal PP w K mg base CX "levels" (k + 1) ["lot"] sp := by
  obtain ⟨h, X, G, c⟩ := T.ex
  obtain ⟨fd, F⟩ := c.d.def_ 15 rfl
  exact ⟨_, fd, T.g_levels, F.kp, F.bindsN fun _ _ _ _ _ _ us hl => match us, hl with | [_], _ => rfl, FunD.ok F sc_levels len hbody, let ⟨oc, od, _, _, _, _, _, _, _, sl, _, lk, _⟩ := F.ex; ⟨oc, od, sl, lk⟩⟩
theorem Tx.ok_levels (T : Tx K mg) {k : Nat} {sp : Sp} (len : ∀ vs H Q E, sp vs H Q E → vs.length = 1) (hbody : ∀ (cdv : Value) (A : Around) (outer : List Env) (s : Shared) (H : Hp) (vs : List V) (Q : VK) (E : XK), Room k (A.deeper (envOfC "levels" sp_levels s.heap.objs.size (He.ga K "levels") cdv)) → sp vs H Q E →
      ∃ t, PSs (cxOf CX0 PP w K mg base nm_levels "levels" sp_levels (He.ga K "levels") cdv A outer s H E).nox (defBody s_levels) t ∧ t { nx := fun _ H' => Q .non H', rt := Q } (start nm_levels vs) H) : Cal PP w K mg base CX0 "levels" (k + 1) ["lot"] sp :=
  T.okx_levels len fun cdv A outer s H vs Q E hr h => let ⟨t, a, b⟩ := hbody cdv A outer s H vs Q E hr h; ⟨t, a.nox, b⟩
theorem Tx.kw0_levels (T : Tx K mg) {CX : CXT} {k : Nat} {sp : Sp} (C : Cal PP w K mg base CX "levels" k ["lot"] sp) : CalK PP w K mg base CX "levels" k ["lot"] ["lot"] (fun l => match l with | [x0] => [x0] | _ => []) sp := by
  obtain ⟨h, X, G, c⟩ := T.ex
  obtain ⟨fd, F⟩ := c.d.def_ 15 rfl
  refine C.kw (gV := fun l => match l with | [x0] => [x0] | _ => []) T.g_levels F (fun l => match l with | [x0] => [x0] | _ => []) (fun {zs ws} r => ?_) fun _ _ _ _ _ _ ws hl => match ws, hl with | [_], _ => rfl
  rcases r with _ | ⟨r0, r⟩
  · exact .nil
  rcases r with _ | ⟨r1, r⟩
  · exact .cons r0 (.nil)
  · exact .nil
theorem Tx.okx_law_draw (T : Tx K mg) {CX : CXT} {k : Nat} {sp : Sp} (len : ∀ vs H Q E, sp vs H Q E → vs.length = 2) (hbody : ∀ (cdv : Value) (A : Around) (outer : List Env) (s : Shared) (H : Hp) (vs : List V) (Q : VK) (E : XK), Room k (A.deeper (envOfC "_law_draw" sp_law_draw s.heap.objs.size (He.ga K "_law_draw") cdv)) → sp vs H Q E →
      ∃ t, PSs (cxOf CX PP w K mg base nm_law_draw "_law_draw" sp_law_draw (He.ga K "_law_draw") cdv A outer s H E) (defBody s_law_draw) t ∧ t { nx := fun _ H' => Q .non H', rt := Q } (start nm_law_draw vs) H) : Cal PP w K mg base CX "_law_draw" (k + 1) ["script", "salt"] sp := by
  obtain ⟨h, X, G, c⟩ := T.ex
  obtain ⟨fd, F⟩ := c.d.def_ 16 rfl
  exact ⟨_, fd, T.g_law_draw, F.kp, F.bindsN fun _ _ _ _ _ _ us hl => match us, hl with | [_, _], _ => rfl, FunD.ok F sc_law_draw len hbody, let ⟨oc, od, _, _, _, _, _, _, _, sl, _, lk, _⟩ := F.ex; ⟨oc, od, sl, lk⟩⟩
theorem Tx.ok_law_draw (T : Tx K mg) {k : Nat} {sp : Sp} (len : ∀ vs H Q E, sp vs H Q E → vs.length = 2) (hbody : ∀ (cdv : Value) (A : Around) (outer : List Env) (s : Shared) (H : Hp) (vs : List V) (Q : VK) (E : XK), Room k (A.deeper (envOfC "_law_draw" sp_law_draw s.heap.objs.size (He.ga K "_law_draw") cdv)) → sp vs H Q E →
      ∃ t, PSs (cxOf CX0 PP w K mg base nm_law_draw "_law_draw" sp_law_draw (He.ga K "_law_draw") cdv A outer s H E).nox (defBody s_law_draw) t ∧ t { nx := fun _ H' => Q .non H', rt := Q } (start nm_law_draw vs) H) : Cal PP w K mg base CX0 "_law_draw" (k + 1) ["script", "salt"] sp :=
  T.okx_law_draw len fun cdv A outer s H vs Q E hr h => let ⟨t, a, b⟩ := hbody cdv A outer s H vs Q E hr h; ⟨t, a.nox, b⟩
theorem Tx.okx_law_any (T : Tx K mg) {CX : CXT} {k : Nat} {sp : Sp} (len : ∀ vs H Q E, sp vs H Q E → vs.length = 2) (hbody : ∀ (cdv : Value) (A : Around) (outer : List Env) (s : Shared) (H : Hp) (vs : List V) (Q : VK) (E : XK), Room k (A.deeper (envOfC "_law_any" sp_law_any s.heap.objs.size (He.ga K "_law_any") cdv)) → sp vs H Q E →
      ∃ t, PSs (cxOf CX PP w K mg base nm_law_any "_law_any" sp_law_any (He.ga K "_law_any") cdv A outer s H E) (defBody s_law_any) t ∧ t { nx := fun _ H' => Q .non H', rt := Q } (start nm_law_any vs) H) : Cal PP w K mg base CX "_law_any" (k + 1) ["deal", "bound"] sp := by
  obtain ⟨h, X, G, c⟩ := T.ex
  obtain ⟨fd, F⟩ := c.d.def_ 17 rfl
  exact ⟨_, fd, T.g_law_any, F.kp, F.bindsN fun _ _ _ _ _ _ us hl => match us, hl with | [_, _], _ => rfl, FunD.ok F sc_law_any len hbody, let ⟨oc, od, _, _, _, _, _, _, _, sl, _, lk, _⟩ := F.ex; ⟨oc, od, sl, lk⟩⟩
theorem Tx.ok_law_any (T : Tx K mg) {k : Nat} {sp : Sp} (len : ∀ vs H Q E, sp vs H Q E → vs.length = 2) (hbody : ∀ (cdv : Value) (A : Around) (outer : List Env) (s : Shared) (H : Hp) (vs : List V) (Q : VK) (E : XK), Room k (A.deeper (envOfC "_law_any" sp_law_any s.heap.objs.size (He.ga K "_law_any") cdv)) → sp vs H Q E →
      ∃ t, PSs (cxOf CX0 PP w K mg base nm_law_any "_law_any" sp_law_any (He.ga K "_law_any") cdv A outer s H E).nox (defBody s_law_any) t ∧ t { nx := fun _ H' => Q .non H', rt := Q } (start nm_law_any vs) H) : Cal PP w K mg base CX0 "_law_any" (k + 1) ["deal", "bound"] sp :=
  T.okx_law_any len fun cdv A outer s H vs Q E hr h => let ⟨t, a, b⟩ := hbody cdv A outer s H vs Q E hr h; ⟨t, a.nox, b⟩
theorem Tx.okx_law_of (T : Tx K mg) {CX : CXT} {k : Nat} {sp : Sp} (len : ∀ vs H Q E, sp vs H Q E → vs.length = 2) (hbody : ∀ (cdv : Value) (A : Around) (outer : List Env) (s : Shared) (H : Hp) (vs : List V) (Q : VK) (E : XK), Room k (A.deeper (envOfC "_law_of" sp_law_of s.heap.objs.size (He.ga K "_law_of") cdv)) → sp vs H Q E →
      ∃ t, PSs (cxOf CX PP w K mg base nm_law_of "_law_of" sp_law_of (He.ga K "_law_of") cdv A outer s H E) (defBody s_law_of) t ∧ t { nx := fun _ H' => Q .non H', rt := Q } (start nm_law_of vs) H) : Cal PP w K mg base CX "_law_of" (k + 1) ["deal", "some"] sp := by
  obtain ⟨h, X, G, c⟩ := T.ex
  obtain ⟨fd, F⟩ := c.d.def_ 18 rfl
  exact ⟨_, fd, T.g_law_of, F.kp, F.bindsN fun _ _ _ _ _ _ us hl => match us, hl with | [_, _], _ => rfl, FunD.ok F sc_law_of len hbody, let ⟨oc, od, _, _, _, _, _, _, _, sl, _, lk, _⟩ := F.ex; ⟨oc, od, sl, lk⟩⟩
theorem Tx.ok_law_of (T : Tx K mg) {k : Nat} {sp : Sp} (len : ∀ vs H Q E, sp vs H Q E → vs.length = 2) (hbody : ∀ (cdv : Value) (A : Around) (outer : List Env) (s : Shared) (H : Hp) (vs : List V) (Q : VK) (E : XK), Room k (A.deeper (envOfC "_law_of" sp_law_of s.heap.objs.size (He.ga K "_law_of") cdv)) → sp vs H Q E →
      ∃ t, PSs (cxOf CX0 PP w K mg base nm_law_of "_law_of" sp_law_of (He.ga K "_law_of") cdv A outer s H E).nox (defBody s_law_of) t ∧ t { nx := fun _ H' => Q .non H', rt := Q } (start nm_law_of vs) H) : Cal PP w K mg base CX0 "_law_of" (k + 1) ["deal", "some"] sp :=
  T.okx_law_of len fun cdv A outer s H vs Q E hr h => let ⟨t, a, b⟩ := hbody cdv A outer s H vs Q E hr h; ⟨t, a.nox, b⟩
theorem Tx.okx_law_same (T : Tx K mg) {CX : CXT} {k : Nat} {sp : Sp} (len : ∀ vs H Q E, sp vs H Q E → vs.length = 2) (hbody : ∀ (cdv : Value) (A : Around) (outer : List Env) (s : Shared) (H : Hp) (vs : List V) (Q : VK) (E : XK), Room k (A.deeper (envOfC "_law_same" sp_law_same s.heap.objs.size (He.ga K "_law_same") cdv)) → sp vs H Q E →
      ∃ t, PSs (cxOf CX PP w K mg base nm_law_same "_law_same" sp_law_same (He.ga K "_law_same") cdv A outer s H E) (defBody s_law_same) t ∧ t { nx := fun _ H' => Q .non H', rt := Q } (start nm_law_same vs) H) : Cal PP w K mg base CX "_law_same" (k + 1) ["value", "due"] sp := by
  obtain ⟨h, X, G, c⟩ := T.ex
  obtain ⟨fd, F⟩ := c.d.def_ 19 rfl
  exact ⟨_, fd, T.g_law_same, F.kp, F.bindsN fun _ _ _ _ _ _ us hl => match us, hl with | [_, _], _ => rfl, FunD.ok F sc_law_same len hbody, let ⟨oc, od, _, _, _, _, _, _, _, sl, _, lk, _⟩ := F.ex; ⟨oc, od, sl, lk⟩⟩
theorem Tx.ok_law_same (T : Tx K mg) {k : Nat} {sp : Sp} (len : ∀ vs H Q E, sp vs H Q E → vs.length = 2) (hbody : ∀ (cdv : Value) (A : Around) (outer : List Env) (s : Shared) (H : Hp) (vs : List V) (Q : VK) (E : XK), Room k (A.deeper (envOfC "_law_same" sp_law_same s.heap.objs.size (He.ga K "_law_same") cdv)) → sp vs H Q E →
      ∃ t, PSs (cxOf CX0 PP w K mg base nm_law_same "_law_same" sp_law_same (He.ga K "_law_same") cdv A outer s H E).nox (defBody s_law_same) t ∧ t { nx := fun _ H' => Q .non H', rt := Q } (start nm_law_same vs) H) : Cal PP w K mg base CX0 "_law_same" (k + 1) ["value", "due"] sp :=
  T.okx_law_same len fun cdv A outer s H vs Q E hr h => let ⟨t, a, b⟩ := hbody cdv A outer s H vs Q E hr h; ⟨t, a.nox, b⟩
theorem Tx.okx_law_heard_time (T : Tx K mg) {CX : CXT} {k : Nat} {sp : Sp} (len : ∀ vs H Q E, sp vs H Q E → vs.length = 1) (hbody : ∀ (cdv : Value) (A : Around) (outer : List Env) (s : Shared) (H : Hp) (vs : List V) (Q : VK) (E : XK), Room k (A.deeper (envOfC "_law_heard_time" sp_law_heard_time s.heap.objs.size (He.ga K "_law_heard_time") cdv)) → sp vs H Q E →
      ∃ t, PSs (cxOf CX PP w K mg base nm_law_heard_time "_law_heard_time" sp_law_heard_time (He.ga K "_law_heard_time") cdv A outer s H E) (defBody s_law_heard_time) t ∧ t { nx := fun _ H' => Q .non H', rt := Q } (start nm_law_heard_time vs) H) : Cal PP w K mg base CX "_law_heard_time" (k + 1) ["deed"] sp := by
  obtain ⟨h, X, G, c⟩ := T.ex
  obtain ⟨fd, F⟩ := c.d.def_ 20 rfl
  exact ⟨_, fd, T.g_law_heard_time, F.kp, F.bindsN fun _ _ _ _ _ _ us hl => match us, hl with | [_], _ => rfl, FunD.ok F sc_law_heard_time len hbody, let ⟨oc, od, _, _, _, _, _, _, _, sl, _, lk, _⟩ := F.ex; ⟨oc, od, sl, lk⟩⟩
theorem Tx.ok_law_heard_time (T : Tx K mg) {k : Nat} {sp : Sp} (len : ∀ vs H Q E, sp vs H Q E → vs.length = 1) (hbody : ∀ (cdv : Value) (A : Around) (outer : List Env) (s : Shared) (H : Hp) (vs : List V) (Q : VK) (E : XK), Room k (A.deeper (envOfC "_law_heard_time" sp_law_heard_time s.heap.objs.size (He.ga K "_law_heard_time") cdv)) → sp vs H Q E →
      ∃ t, PSs (cxOf CX0 PP w K mg base nm_law_heard_time "_law_heard_time" sp_law_heard_time (He.ga K "_law_heard_time") cdv A outer s H E).nox (defBody s_law_heard_time) t ∧ t { nx := fun _ H' => Q .non H', rt := Q } (start nm_law_heard_time vs) H) : Cal PP w K mg base CX0 "_law_heard_time" (k + 1) ["deed"] sp :=
  T.okx_law_heard_time len fun cdv A outer s H vs Q E hr h => let ⟨t, a, b⟩ := hbody cdv A outer s H vs Q E hr h; ⟨t, a.nox, b⟩
theorem Tx.okx_law_some_lot (T : Tx K mg) {CX : CXT} {k : Nat} {sp : Sp} (len : ∀ vs H Q E, sp vs H Q E → vs.length = 2) (hbody : ∀ (cdv : Value) (A : Around) (outer : List Env) (s : Shared) (H : Hp) (vs : List V) (Q : VK) (E : XK), Room k (A.deeper (envOfC "_law_some_lot" sp_law_some_lot s.heap.objs.size (He.ga K "_law_some_lot") cdv)) → sp vs H Q E →
      ∃ t, PSs (cxOf CX PP w K mg base nm_law_some_lot "_law_some_lot" sp_law_some_lot (He.ga K "_law_some_lot") cdv A outer s H E) (defBody s_law_some_lot) t ∧ t { nx := fun _ H' => Q .non H', rt := Q } (start nm_law_some_lot vs) H) : Cal PP w K mg base CX "_law_some_lot" (k + 1) ["deal", "deep"] sp := by
  obtain ⟨h, X, G, c⟩ := T.ex
  obtain ⟨fd, F⟩ := c.d.def_ 21 rfl
  exact ⟨_, fd, T.g_law_some_lot, F.kp, F.bindsN fun _ _ _ _ _ _ us hl => match us, hl with | [_, _], _ => rfl, FunD.ok F sc_law_some_lot len hbody, let ⟨oc, od, _, _, _, _, _, _, _, sl, _, lk, _⟩ := F.ex; ⟨oc, od, sl, lk⟩⟩
theorem Tx.ok_law_some_lot (T : Tx K mg) {k : Nat} {sp : Sp} (len : ∀ vs H Q E, sp vs H Q E → vs.length = 2) (hbody : ∀ (cdv : Value) (A : Around) (outer : List Env) (s : Shared) (H : Hp) (vs : List V) (Q : VK) (E : XK), Room k (A.deeper (envOfC "_law_some_lot" sp_law_some_lot s.heap.objs.size (He.ga K "_law_some_lot") cdv)) → sp vs H Q E →
      ∃ t, PSs (cxOf CX0 PP w K mg base nm_law_some_lot "_law_some_lot" sp_law_some_lot (He.ga K "_law_some_lot") cdv A outer s H E).nox (defBody s_law_some_lot) t ∧ t { nx := fun _ H' => Q .non H', rt := Q } (start nm_law_some_lot vs) H) : Cal PP w K mg base CX0 "_law_some_lot" (k + 1) ["deal", "deep"] sp :=
  T.okx_law_some_lot len fun cdv A outer s H vs Q E hr h => let ⟨t, a, b⟩ := hbody cdv A outer s H vs Q E hr h; ⟨t, a.nox, b⟩
theorem Tx.okx_law_steps (T : Tx K mg) {CX : CXT} {k : Nat} {sp : Sp} (len : ∀ vs H Q E, sp vs H Q E → vs.length = 1) (hbody : ∀ (cdv : Value) (A : Around) (outer : List Env) (s : Shared) (H : Hp) (vs : List V) (Q : VK) (E : XK), Room k (A.deeper (envOfC "_law_steps" sp_law_steps s.heap.objs.size (He.ga K "_law_steps") cdv)) → sp vs H Q E →
      ∃ t, PSs (cxOf CX PP w K mg base nm_law_steps "_law_steps" sp_law_steps (He.ga K "_law_steps") cdv A outer s H E) (defBody s_law_steps) t ∧ t { nx := fun _ H' => Q .non H', rt := Q } (start nm_law_steps vs) H) : Cal PP w K mg base CX "_law_steps" (k + 1) ["lot"] sp := by
  obtain ⟨h, X, G, c⟩ := T.ex
  obtain ⟨fd, F⟩ := c.d.def_ 22 rfl
  exact ⟨_, fd, T.g_law_steps, F.kp, F.bindsN fun _ _ _ _ _ _ us hl => match us, hl with | [_], _ => rfl, FunD.ok F sc_law_steps len hbody, let ⟨oc, od, _, _, _, _, _, _, _, sl, _, lk, _⟩ := F.ex; ⟨oc, od, sl, lk⟩⟩
theorem Tx.ok_law_steps (T : Tx K mg) {k : Nat} {sp : Sp} (len : ∀ vs H Q E, sp vs H Q E → vs.length = 1) (hbody : ∀ (cdv : Value) (A : Around) (outer : List Env) (s : Shared) (H : Hp) (vs : List V) (Q : VK) (E : XK), Room k (A.deeper (envOfC "_law_steps" sp_law_steps s.heap.objs.size (He.ga K "_law_steps") cdv)) → sp vs H Q E →
      ∃ t, PSs (cxOf CX0 PP w K mg base nm_law_steps "_law_steps" sp_law_steps (He.ga K "_law_steps") cdv A outer s H E).nox (defBody s_law_steps) t ∧ t { nx := fun _ H' => Q .non H', rt := Q } (start nm_law_steps vs) H) : Cal PP w K mg base CX0 "_law_steps" (k + 1) ["lot"] sp :=
  T.okx_law_steps len fun cdv A outer s H vs Q E hr h => let ⟨t, a, b⟩ := hbody cdv A outer s H vs Q E hr h; ⟨t, a.nox, b⟩
theorem Tx.okx_law_lot_of_few (T : Tx K mg) {CX : CXT} {k : Nat} {sp : Sp} (len : ∀ vs H Q E, sp vs H Q E → vs.length = 2) (hbody : ∀ (cdv : Value) (A : Around) (outer : List Env) (s : Shared) (H : Hp) (vs : List V) (Q : VK) (E : XK), Room k (A.deeper (envOfC "_law_lot_of_few" sp_law_lot_of_few s.heap.objs.size (He.ga K "_law_lot_of_few") cdv)) → sp vs H Q E →
      ∃ t, PSs (cxOf CX PP w K mg base nm_law_lot_of_few "_law_lot_of_few" sp_law_lot_of_few (He.ga K "_law_lot_of_few") cdv A outer s H E) (defBody s_law_lot_of_few) t ∧ t { nx := fun _ H' => Q .non H', rt := Q } (start nm_law_lot_of_few vs) H) : Cal PP w K mg base CX "_law_lot_of_few" (k + 1) ["deal", "most"] sp := by
  obtain ⟨h, X, G, c⟩ := T.ex
  obtain ⟨fd, F⟩ := c.d.def_ 23 rfl
  exact ⟨_, fd, T.g_law_lot_of_few, F.kp, F.bindsN fun _ _ _ _ _ _ us hl => match us, hl with | [_, _], _ => rfl, FunD.ok F sc_law_lot_of_few len hbody, let ⟨oc, od, _, _, _, _, _, _, _, sl, _, lk, _⟩ := F.ex; ⟨oc, od, sl, lk⟩⟩
theorem Tx.ok_law_lot_of_few (T : Tx K mg) {k : Nat} {sp : Sp} (len : ∀ vs H Q E, sp vs H Q E → vs.length = 2) (hbody : ∀ (cdv : Value) (A : Around) (outer : List Env) (s : Shared) (H : Hp) (vs : List V) (Q : VK) (E : XK), Room k (A.deeper (envOfC "_law_lot_of_few" sp_law_lot_of_few s.heap.objs.size (He.ga K "_law_lot_of_few") cdv)) → sp vs H Q E →
      ∃ t, PSs (cxOf CX0 PP w K mg base nm_law_lot_of_few "_law_lot_of_few" sp_law_lot_of_few (He.ga K "_law_lot_of_few") cdv A outer s H E).nox (defBody s_law_lot_of_few) t ∧ t { nx := fun _ H' => Q .non H', rt := Q } (start nm_law_lot_of_few vs) H) : Cal PP w K mg base CX0 "_law_lot_of_few" (k + 1) ["deal", "most"] sp :=
  T.okx_law_lot_of_few len fun cdv A outer s H vs Q E hr h => let ⟨t, a, b⟩ := hbody cdv A outer s H vs Q E hr h; ⟨t, a.nox, b⟩
theorem Tx.okx_law_ahead (T : Tx K mg) {CX : CXT} {k : Nat} {sp : Sp} (len : ∀ vs H Q E, sp vs H Q E → vs.length = 2) (hbody : ∀ (cdv : Value) (A : Around) (outer : List Env) (s : Shared) (H : Hp) (vs : List V) (Q : VK) (E : XK), Room k (A.deeper (envOfC "_law_ahead" sp_law_ahead s.heap.objs.size (He.ga K "_law_ahead") cdv)) → sp vs H Q E →
      ∃ t, PSs (cxOf CX PP w K mg base nm_law_ahead "_law_ahead" sp_law_ahead (He.ga K "_law_ahead") cdv A outer s H E) (defBody s_law_ahead) t ∧ t { nx := fun _ H' => Q .non H', rt := Q } (start nm_law_ahead vs) H) : Cal PP w K mg base CX "_law_ahead" (k + 1) ["lot", "first"] sp := by
  obtain ⟨h, X, G, c⟩ := T.ex
  obtain ⟨fd, F⟩ := c.d.def_ 24 rfl
  exact ⟨_, fd, T.g_law_ahead, F.kp, F.bindsN fun _ _ _ _ _ _ us hl => match us, hl with | [_, _], _ => rfl, FunD.ok F sc_law_ahead len hbody, let ⟨oc, od, _, _, _, _, _, _, _, sl, _, lk, _⟩ := F.ex; ⟨oc, od, sl, lk⟩⟩
theorem Tx.ok_law_ahead (T : Tx K mg) {k : Nat} {sp : Sp} (len : ∀ vs H Q E, sp vs H Q E → vs.length = 2) (hbody : ∀ (cdv : Value) (A : Around) (outer : List Env) (s : Shared) (H : Hp) (vs : List V) (Q : VK) (E : XK), Room k (A.deeper (envOfC "_law_ahead" sp_law_ahead s.heap.objs.size (He.ga K "_law_ahead") cdv)) → sp vs H Q E →
      ∃ t, PSs (cxOf CX0 PP w K mg base nm_law_ahead "_law_ahead" sp_law_ahead (He.ga K "_law_ahead") cdv A outer s H E).nox (defBody s_law_ahead) t ∧ t { nx := fun _ H' => Q .non H', rt := Q } (start nm_law_ahead vs) H) : Cal PP w K mg base CX0 "_law_ahead" (k + 1) ["lot", "first"] sp :=
  T.okx_law_ahead len fun cdv A outer s H vs Q E hr h => let ⟨t, a, b⟩ := hbody cdv A outer s H vs Q E hr h; ⟨t, a.nox, b⟩
theorem Tx.okx_law_longest (T : Tx K mg) {CX : CXT} {k : Nat} {sp : Sp} (len : ∀ vs H Q E, sp vs H Q E → vs.length = 1) (hbody : ∀ (cdv : Value) (A : Around) (outer : List Env) (s : Shared) (H : Hp) (vs : List V) (Q : VK) (E : XK), Room k (A.deeper (envOfC "_law_longest" sp_law_longest s.heap.objs.size (He.ga K "_law_longest") cdv)) → sp vs H Q E →
      ∃ t, PSs (cxOf CX PP w K mg base nm_law_longest "_law_longest" sp_law_longest (He.ga K "_law_longest") cdv A outer s H E) (defBody s_law_longest) t ∧ t { nx := fun _ H' => Q .non H', rt := Q } (start nm_law_longest vs) H) : Cal PP w K mg base CX "_law_longest" (k + 1) ["ahead"] sp := by
  obtain ⟨h, X, G, c⟩ := T.ex
  obtain ⟨fd, F⟩ := c.d.def_ 25 rfl
  exact ⟨_, fd, T.g_law_longest, F.kp, F.bindsN fun _ _ _ _ _ _ us hl => match us, hl with | [_], _ => rfl, FunD.ok F sc_law_longest len hbody, let ⟨oc, od, _, _, _, _, _, _, _, sl, _, lk, _⟩ := F.ex; ⟨oc, od, sl, lk⟩⟩
theorem Tx.ok_law_longest (T : Tx K mg) {k : Nat} {sp : Sp} (len : ∀ vs H Q E, sp vs H Q E → vs.length = 1) (hbody : ∀ (cdv : Value) (A : Around) (outer : List Env) (s : Shared) (H : Hp) (vs : List V) (Q : VK) (E : XK), Room k (A.deeper (envOfC "_law_longest" sp_law_longest s.heap.objs.size (He.ga K "_law_longest") cdv)) → sp vs H Q E →
      ∃ t, PSs (cxOf CX0 PP w K mg base nm_law_longest "_law_longest" sp_law_longest (He.ga K "_law_longest") cdv A outer s H E).nox (defBody s_law_longest) t ∧ t { nx := fun _ H' => Q .non H', rt := Q } (start nm_law_longest vs) H) : Cal PP w K mg base CX0 "_law_longest" (k + 1) ["ahead"] sp :=
  T.okx_law_longest len fun cdv A outer s H vs Q E hr h => let ⟨t, a, b⟩ := hbody cdv A outer s H vs Q E hr h; ⟨t, a.nox, b⟩
theorem Tx.okx_law_heights (T : Tx K mg) {CX : CXT} {k : Nat} {sp : Sp} (len : ∀ vs H Q E, sp vs H Q E → vs.length = 1) (hbody : ∀ (cdv : Value) (A : Around) (outer : List Env) (s : Shared) (H : Hp) (vs : List V) (Q : VK) (E : XK), Room k (A.deeper (envOfC "_law_heights" sp_law_heights s.heap.objs.size (He.ga K "_law_heights") cdv)) → sp vs H Q E →
      ∃ t, PSs (cxOf CX PP w K mg base nm_law_heights "_law_heights" sp_law_heights (He.ga K "_law_heights") cdv A outer s H E) (defBody s_law_heights) t ∧ t { nx := fun _ H' => Q .non H', rt := Q } (start nm_law_heights vs) H) : Cal PP w K mg base CX "_law_heights" (k + 1) ["ahead"] sp := by
  obtain ⟨h, X, G, c⟩ := T.ex
  obtain ⟨fd, F⟩ := c.d.def_ 26 rfl
  exact ⟨_, fd, T.g_law_heights, F.kp, F.bindsN fun _ _ _ _ _ _ us hl => match us, hl with | [_], _ => rfl, FunD.ok F sc_law_heights len hbody, let ⟨oc, od, _, _, _, _, _, _, _, sl, _, lk, _⟩ := F.ex; ⟨oc, od, sl, lk⟩⟩
theorem Tx.ok_law_heights (T : Tx K mg) {k : Nat} {sp : Sp} (len : ∀ vs H Q E, sp vs H Q E → vs.length = 1) (hbody : ∀ (cdv : Value) (A : Around) (outer : List Env) (s : Shared) (H : Hp) (vs : List V) (Q : VK) (E : XK), Room k (A.deeper (envOfC "_law_heights" sp_law_heights s.heap.objs.size (He.ga K "_law_heights") cdv)) → sp vs H Q E →
      ∃ t, PSs (cxOf CX0 PP w K mg base nm_law_heights "_law_heights" sp_law_heights (He.ga K "_law_heights") cdv A outer s H E).nox (defBody s_law_heights) t ∧ t { nx := fun _ H' => Q .non H', rt := Q } (start nm_law_heights vs) H) : Cal PP w K mg base CX0 "_law_heights" (k + 1) ["ahead"] sp :=
  T.okx_law_heights len fun cdv A outer s H vs Q E hr h => let ⟨t, a, b⟩ := hbody cdv A outer s H vs Q E hr h; ⟨t, a.nox, b⟩
theorem Tx.okx_law_widest (T : Tx K mg) {CX : CXT} {k : Nat} {sp : Sp} (len : ∀ vs H Q E, sp vs H Q E → vs.length = 1) (hbody : ∀ (cdv : Value) (A : Around) (outer : List Env) (s : Shared) (H : Hp) (vs : List V) (Q : VK) (E : XK), Room k (A.deeper (envOfC "_law_widest" sp_law_widest s.heap.objs.size (He.ga K "_law_widest") cdv)) → sp vs H Q E →
      ∃ t, PSs (cxOf CX PP w K mg base nm_law_widest "_law_widest" sp_law_widest (He.ga K "_law_widest") cdv A outer s H E) (defBody s_law_widest) t ∧ t { nx := fun _ H' => Q .non H', rt := Q } (start nm_law_widest vs) H) : Cal PP w K mg base CX "_law_widest" (k + 1) ["ahead"] sp := by
  obtain ⟨h, X, G, c⟩ := T.ex
  obtain ⟨fd, F⟩ := c.d.def_ 27 rfl
  exact ⟨_, fd, T.g_law_widest, F.kp, F.bindsN fun _ _ _ _ _ _ us hl => match us, hl with | [_], _ => rfl, FunD.ok F sc_law_widest len hbody, let ⟨oc, od, _, _, _, _, _, _, _, sl, _, lk, _⟩ := F.ex; ⟨oc, od, sl, lk⟩⟩
theorem Tx.ok_law_widest (T : Tx K mg) {k : Nat} {sp : Sp} (len : ∀ vs H Q E, sp vs H Q E → vs.length = 1) (hbody : ∀ (cdv : Value) (A : Around) (outer : List Env) (s : Shared) (H : Hp) (vs : List V) (Q : VK) (E : XK), Room k (A.deeper (envOfC "_law_widest" sp_law_widest s.heap.objs.size (He.ga K "_law_widest") cdv)) → sp vs H Q E →
      ∃ t, PSs (cxOf CX0 PP w K mg base nm_law_widest "_law_widest" sp_law_widest (He.ga K "_law_widest") cdv A outer s H E).nox (defBody s_law_widest) t ∧ t { nx := fun _ H' => Q .non H', rt := Q } (start nm_law_widest vs) H) : Cal PP w K mg base CX0 "_law_widest" (k + 1) ["ahead"] sp :=
  T.okx_law_widest len fun cdv A outer s H vs Q E hr h => let ⟨t, a, b⟩ := hbody cdv A outer s H vs Q E hr h; ⟨t, a.nox, b⟩
theorem Tx.okx_law_cut_width (T : Tx K mg) {CX : CXT} {k : Nat} {sp : Sp} (len : ∀ vs H Q E, sp vs H Q E → vs.length = 1) (hbody : ∀ (cdv : Value) (A : Around) (outer : List Env) (s : Shared) (H : Hp) (vs : List V) (Q : VK) (E : XK), Room k (A.deeper (envOfC "_law_cut_width" sp_law_cut_width s.heap.objs.size (He.ga K "_law_cut_width") cdv)) → sp vs H Q E →
      ∃ t, PSs (cxOf CX PP w K mg base nm_law_cut_width "_law_cut_width" sp_law_cut_width (He.ga K "_law_cut_width") cdv A outer s H E) (defBody s_law_cut_width) t ∧ t { nx := fun _ H' => Q .non H', rt := Q } (start nm_law_cut_width vs) H) : Cal PP w K mg base CX "_law_cut_width" (k + 1) ["lot"] sp := by
  obtain ⟨h, X, G, c⟩ := T.ex
  obtain ⟨fd, F⟩ := c.d.def_ 28 rfl
  exact ⟨_, fd, T.g_law_cut_width, F.kp, F.bindsN fun _ _ _ _ _ _ us hl => match us, hl with | [_], _ => rfl, FunD.ok F sc_law_cut_width len hbody, let ⟨oc, od, _, _, _, _, _, _, _, sl, _, lk, _⟩ := F.ex; ⟨oc, od, sl, lk⟩⟩
theorem Tx.ok_law_cut_width (T : Tx K mg) {k : Nat} {sp : Sp} (len : ∀ vs H Q E, sp vs H Q E → vs.length = 1) (hbody : ∀ (cdv : Value) (A : Around) (outer : List Env) (s : Shared) (H : Hp) (vs : List V) (Q : VK) (E : XK), Room k (A.deeper (envOfC "_law_cut_width" sp_law_cut_width s.heap.objs.size (He.ga K "_law_cut_width") cdv)) → sp vs H Q E →
      ∃ t, PSs (cxOf CX0 PP w K mg base nm_law_cut_width "_law_cut_width" sp_law_cut_width (He.ga K "_law_cut_width") cdv A outer s H E).nox (defBody s_law_cut_width) t ∧ t { nx := fun _ H' => Q .non H', rt := Q } (start nm_law_cut_width vs) H) : Cal PP w K mg base CX0 "_law_cut_width" (k + 1) ["lot"] sp :=
  T.okx_law_cut_width len fun cdv A outer s H vs Q E hr h => let ⟨t, a, b⟩ := hbody cdv A outer s H vs Q E hr h; ⟨t, a.nox, b⟩
theorem Tx.okx_law_many_lot (T : Tx K mg) {CX : CXT} {k : Nat} {sp : Sp} (len : ∀ vs H Q E, sp vs H Q E → vs.length = 1) (hbody : ∀ (cdv : Value) (A : Around) (outer : List Env) (s : Shared) (H : Hp) (vs : List V) (Q : VK) (E : XK), Room k (A.deeper (envOfC "_law_many_lot" sp_law_many_lot s.heap.objs.size (He.ga K "_law_many_lot") cdv)) → sp vs H Q E →
      ∃ t, PSs (cxOf CX PP w K mg base nm_law_many_lot "_law_many_lot" sp_law_many_lot (He.ga K "_law_many_lot") cdv A outer s H E) (defBody s_law_many_lot) t ∧ t { nx := fun _ H' => Q .non H', rt := Q } (start nm_law_many_lot vs) H) : Cal PP w K mg base CX "_law_many_lot" (k + 1) ["deal"] sp := by
  obtain ⟨h, X, G, c⟩ := T.ex
  obtain ⟨fd, F⟩ := c.d.def_ 29 rfl
  exact ⟨_, fd, T.g_law_many_lot, F.kp, F.bindsN fun _ _ _ _ _ _ us hl => match us, hl with | [_], _ => rfl, FunD.ok F sc_law_many_lot len hbody, let ⟨oc, od, _, _, _, _, _, _, _, sl, _, lk, _⟩ := F.ex; ⟨oc, od, sl, lk⟩⟩
theorem Tx.ok_law_many_lot (T : Tx K mg) {k : Nat} {sp : Sp} (len : ∀ vs H Q E, sp vs H Q E → vs.length = 1) (hbody : ∀ (cdv : Value) (A : Around) (outer : List Env) (s : Shared) (H : Hp) (vs : List V) (Q : VK) (E : XK), Room k (A.deeper (envOfC "_law_many_lot" sp_law_many_lot s.heap.objs.size (He.ga K "_law_many_lot") cdv)) → sp vs H Q E →
      ∃ t, PSs (cxOf CX0 PP w K mg base nm_law_many_lot "_law_many_lot" sp_law_many_lot (He.ga K "_law_many_lot") cdv A outer s H E).nox (defBody s_law_many_lot) t ∧ t { nx := fun _ H' => Q .non H', rt := Q } (start nm_law_many_lot vs) H) : Cal PP w K mg base CX0 "_law_many_lot" (k + 1) ["deal"] sp :=
  T.okx_law_many_lot len fun cdv A outer s H vs Q E hr h => let ⟨t, a, b⟩ := hbody cdv A outer s H vs Q E hr h; ⟨t, a.nox, b⟩
theorem Tx.okx_law (T : Tx K mg) {CX : CXT} {k : Nat} {sp : Sp} (len : ∀ vs H Q E, sp vs H Q E → vs.length = 1) (hbody : ∀ (cdv : Value) (A : Around) (outer : List Env) (s : Shared) (H : Hp) (vs : List V) (Q : VK) (E : XK), Room k (A.deeper (envOfC "law" sp_law s.heap.objs.size (He.ga K "law") cdv)) → sp vs H Q E →
      ∃ t, PSs (cxOf CX PP w K mg base nm_law "law" sp_law (He.ga K "law") cdv A outer s H E) (defBody s_law) t ∧ t { nx := fun _ H' => Q .non H', rt := Q } (start nm_law vs) H) : Cal PP w K mg base CX "law" (k + 1) ["script"] sp := by
  obtain ⟨h, X, G, c⟩ := T.ex
  obtain ⟨fd, F⟩ := c.d.def_ 30 rfl
  exact ⟨_, fd, T.g_law, F.kp, F.bindsN fun _ _ _ _ _ _ us hl => match us, hl with | [_], _ => rfl, FunD.ok F sc_law len hbody, let ⟨oc, od, _, _, _, _, _, _, _, sl, _, lk, _⟩ := F.ex; ⟨oc, od, sl, lk⟩⟩
theorem Tx.ok_law (T : Tx K mg) {k : Nat} {sp : Sp} (len : ∀ vs H Q E, sp vs H Q E → vs.length = 1) (hbody : ∀ (cdv : Value) (A : Around) (outer : List Env) (s : Shared) (H : Hp) (vs : List V) (Q : VK) (E : XK), Room k (A.deeper (envOfC "law" sp_law s.heap.objs.size (He.ga K "law") cdv)) → sp vs H Q E →
      ∃ t, PSs (cxOf CX0 PP w K mg base nm_law "law" sp_law (He.ga K "law") cdv A outer s H E).nox (defBody s_law) t ∧ t { nx := fun _ H' => Q .non H', rt := Q } (start nm_law vs) H) : Cal PP w K mg base CX0 "law" (k + 1) ["script"] sp :=
  T.okx_law len fun cdv A outer s H vs Q E hr h => let ⟨t, a, b⟩ := hbody cdv A outer s H vs Q E hr h; ⟨t, a.nox, b⟩
theorem Tx.okx_LotPlace___init (T : Tx K mg) {CX : CXT} {k : Nat} {sp : Sp} (len : ∀ vs H Q E, sp vs H Q E → vs.length = 3) (hbody : ∀ (cdv : Value) (A : Around) (outer : List Env) (s : Shared) (H : Hp) (vs : List V) (Q : VK) (E : XK), Room k (A.deeper (envOfC "LotPlace.__init__" sp_LotPlace___init s.heap.objs.size (He.ma K (He.ga K "LotPlace") "__init__") cdv)) → sp vs H Q E →
      ∃ t, PSs (cxOf CX PP w K mg base nm_LotPlace___init "LotPlace.__init__" sp_LotPlace___init (He.ma K (He.ga K "LotPlace") "__init__") cdv A outer s H E) (defBody s_LotPlace___init) t ∧ t { nx := fun _ H' => Q .non H', rt := Q } (start nm_LotPlace___init vs) H) : MkCal PP w K mg base CX "LotPlace" (He.ga K "LotPlace") (k + 1) ["self", "lot", "first"] sp := by
  obtain ⟨h, X, G, c⟩ := T.ex
  obtain ⟨fd, F⟩ := c.d.def_ 31 rfl
  exact ⟨_, fd, T.g_LotPlace, T.mk_LotPlace, F.bindsN fun _ _ _ _ _ _ us hl => match us, hl with | [_, _, _], _ => rfl, FunD.ok F sc_LotPlace___init len hbody⟩
theorem Tx.ok_LotPlace___init (T : Tx K mg) {k : Nat} {sp : Sp} (len : ∀ vs H Q E, sp vs H Q E → vs.length = 3) (hbody : ∀ (cdv : Value) (A : Around) (outer : List Env) (s : Shared) (H : Hp) (vs : List V) (Q : VK) (E : XK), Room k (A.deeper (envOfC "LotPlace.__init__" sp_LotPlace___init s.heap.objs.size (He.ma K (He.ga K "LotPlace") "__init__") cdv)) → sp vs H Q E →
      ∃ t, PSs (cxOf CX0 PP w K mg base nm_LotPlace___init "LotPlace.__init__" sp_LotPlace___init (He.ma K (He.ga K "LotPlace") "__init__") cdv A outer s H E).nox (defBody s_LotPlace___init) t ∧ t { nx := fun _ H' => Q .non H', rt := Q } (start nm_LotPlace___init vs) H) : MkCal PP w K mg base CX0 "LotPlace" (He.ga K "LotPlace") (k + 1) ["self", "lot", "first"] sp := by
  obtain ⟨h, X, G, c⟩ := T.ex
  obtain ⟨fd, F⟩ := c.d.def_ 31 rfl
  exact ⟨_, fd, T.g_LotPlace, T.mk_LotPlace, F.bindsN fun _ _ _ _ _ _ us hl => match us, hl with | [_, _, _], _ => rfl, FunD.ok F sc_LotPlace___init len fun cdv A outer s H vs Q E hr h => let ⟨t, a, b⟩ := hbody cdv A outer s H vs Q E hr h; ⟨t, a.nox, b⟩⟩
end
abbrev R : PySem.W.OpenRow := PySem.W.OpenLaw.row PySem.Challenge.rw_heldshares_k55_whole_work_span_width
abbrev hk : PySem.W.Hook := HH.hookH 7 fas fns xs xv tf file
def ob (s : PySem.W.SharedT) : HH.AlH := HH.obsH 7 fas fns xs tf file (HandSHeadRun.getT s)
theorem ob_eq (s : PySem.W.SharedT) : ob s = hk.obs s.abs := HH.obsH_eq (HandSHeadRun.getT_eq s)
def names0 : List PySem.Str := ["_wall", "HoldError", "InvalidModule", "InvalidValue", "InvalidState", "InvalidQuestion", "Refused", "lot_parts", "is_lot_form", "is_lot", "checked_lot", "LotPlace", "steps_in", "edges_of", "tied", "work_in", "span_in", "span", "width_in", "width", "heights_in", "levels_in", "heights", "levels", "_law_draw"]
def names1 : List PySem.Str := ["_law_any", "_law_of", "_law_same", "_law_heard_time", "_law_some_lot", "_law_steps", "_law_lot_of_few", "_law_ahead", "_law_longest", "_law_heights", "_law_widest", "_law_cut_width", "_law_many_lot", "MOST_STEPS", "MOST_LOTS", "MOST_LOT_DEEP"]
theorem run (w : World) : HandSHeadRun.RunEq R (PySem.W.view R.prog [45]) hk ob 20000 (names0 ++ names1) w := by
  intro os
  kernel_rfl
end HK
set_option Elab.async false
set_option linter.all false
set_option maxRecDepth 100000
set_option maxHeartbeats 4000000
/-! lots as data -/
namespace HK
open PySem PySem.Spec PyProof.Rows L2
inductive Lot where
  | step
  | row (l : List Lot)
  | both (a b : Lot)
def Lot.parts : Lot → List Lot
  | .step => []
  | .row l => l
  | .both a b => [a, b]
mutual
def Lot.data : Lot → PyData
  | .step => .tuple [.str "step"]
  | .row l => .tuple [.str "row", .tuple (Lot.dataL l)]
  | .both a b => .tuple [.str "both", a.data, b.data]
def Lot.dataL : List Lot → List PyData
  | [] => []
  | x :: r => x.data :: Lot.dataL r
end
theorem Lot.dataL_eq : ∀ l : List Lot, Lot.dataL l = l.map Lot.data
  | [] => rfl
  | x :: r => by rw [Lot.dataL, Lot.dataL_eq r]; rfl
/-- looks like a lot, but for those in it -/
def isForm : PyData → Bool
  | .tuple (.str w :: r) => if w = "row" then (match r with
      | [.tuple _] => true
      | _ => false) else (decide (w = "step") && r.isEmpty) || (decide (w = "both") && decide (r.length = 2))
  | _ => false
def partsD : PyData → List PyData
  | .tuple (.str w :: r) => if w = "row" then (match r with
      | [.tuple l] => l
      | _ => []) else if w = "both" then r else []
  | _ => []
theorem word_rs : ¬ (("row" : Str) = "step") := by decide +kernel
theorem word_rb : ¬ (("row" : Str) = "both") := by decide +kernel
theorem word_bs : ¬ (("both" : Str) = "step") := by decide +kernel
theorem word_sr : ¬ (("step" : Str) = "row") := by decide +kernel
theorem word_br : ¬ (("both" : Str) = "row") := by decide +kernel
theorem word_sb : ¬ (("step" : Str) = "both") := by decide +kernel
theorem form_inv : ∀ {d : PyData}, isForm d = true → ∃ z ds, d = .tuple (.str z :: ds) ∧ ((z = "row" ∧ ∃ l, ds = [.tuple l]) ∨ (z = "step" ∧ ds = []) ∨ (z = "both" ∧ ds.length = 2)) := by
  intro d h
  cases d with
  | tuple l =>
    cases l with
    | nil => simp [isForm] at h
    | cons x ds =>
      cases x with
      | str z =>
        refine ⟨z, ds, rfl, ?_⟩
        by_cases e : z = "row"
        · refine .inl ⟨e, ?_⟩
          simp only [isForm, if_pos e] at h
          split at h
          · exact ⟨_, rfl⟩
          · cases h
        · simp only [isForm, if_neg e, Bool.or_eq_true, Bool.and_eq_true, decide_eq_true_eq, List.isEmpty_iff] at h
          exact .inr h
      | _ => simp [isForm] at h
  | _ => simp [isForm] at h
theorem isForm_lot (l : Lot) : isForm l.data = true := by
  cases l <;> simp [Lot.data, isForm, word_sr, word_br]
theorem partsD_lot (l : Lot) : partsD l.data = Lot.dataL l.parts := by
  cases l <;> simp [Lot.data, partsD, word_sr, word_br, word_sb, Lot.parts, Lot.dataL]
mutual
/-- tuples and plain things alone -/
def imm : PyData → Bool
  | .list _ => false
  | .dict _ => false
  | .tuple ds => immL ds
  | _ => true
def immL : List PyData → Bool
  | [] => true
  | d :: ds => imm d && immL ds
end
mutual
theorem imm_lot : ∀ l : Lot, imm l.data = true
  | .step => rfl
  | .row l => by
    show (true && ((imm (.tuple (Lot.dataL l))) && true)) = true
    rw [Bool.true_and, Bool.and_true]
    exact imm_lots l
  | .both a b => by
    show (true && (imm a.data && (imm b.data && true))) = true
    rw [imm_lot a, imm_lot b]
    rfl
theorem imm_lots : ∀ l : List Lot, immL (Lot.dataL l) = true
  | [] => rfl
  | x :: r => by
    show (imm x.data && immL (Lot.dataL r)) = true
    rw [imm_lot x, imm_lots r]
    rfl
end
section
variable {K : PySem.W.Frag} {M M' : List Addr} {H H1 : Hp}
mutual
theorem At.any : ∀ (d : PyData) (v : V), imm d = true → At K M H d v → At K M' H d v
  | .none, v, _, h => h
  | .bool _, v, _, h => h
  | .int _, v, _, h => h
  | .str _, v, _, h => h
  | .list ds, v, i, _ => by cases i
  | .tuple ds, v, i, ⟨a, xs, ev, ha, hl⟩ => ⟨a, xs, ev, ha, AtL.any ds xs i hl⟩
  | .dict kvs, v, i, _ => by cases i
theorem AtL.any : ∀ (ds : List PyData) (vs : List V), immL ds = true → AtL K M H ds vs → AtL K M' H ds vs
  | [], vs, _, h => h
  | d :: ds, vs, i, ⟨v, r, ev, h1, h2⟩ => by
    have i' : (imm d && immL ds) = true := i
    rw [Bool.and_eq_true] at i'
    exact ⟨v, r, ev, At.any d v i'.1 h1, AtL.any ds r i'.2 h2⟩
end
mutual
/-- what is free is in no datum -/
theorem At.fresh {p : Addr} (hp : H p = none) : ∀ (d : PyData) (v : V), At K M H d v → At K (p :: M) H d v
  | .none, v, h => h
  | .bool _, v, h => h
  | .int _, v, h => h
  | .str _, v, h => h
  | .list ds, v, ⟨a, xs, ev, ha, n, hl⟩ => ⟨a, xs, ev, ha, fun z => (List.mem_cons.mp z).elim (fun e => by rw [e, hp] at ha; cases ha) n, AtL.fresh hp ds xs hl⟩
  | .tuple ds, v, ⟨a, xs, ev, ha, hl⟩ => ⟨a, xs, ev, ha, AtL.fresh hp ds xs hl⟩
  | .dict kvs, v, ⟨e0, a, ev, ha, n⟩ => ⟨e0, a, ev, ha, fun z => (List.mem_cons.mp z).elim (fun e => by rw [e, hp] at ha; cases ha) n⟩
theorem AtL.fresh {p : Addr} (hp : H p = none) : ∀ (ds : List PyData) (vs : List V), AtL K M H ds vs → AtL K (p :: M) H ds vs
  | [], vs, h => h
  | d :: ds, vs, ⟨v, r, ev, h1, h2⟩ => ⟨v, r, ev, At.fresh hp d v h1, AtL.fresh hp ds r h2⟩
end
theorem AtL.new {p : Addr} {o : HO} (hp : H p = none) {ds : List PyData} {vs : List V} (h : AtL K M H ds vs) : AtL K M (upd H p o) ds vs := AtL.eff (M' := []) (Eff.refl.put hp) Lists.nil (fun _ z => absurd z (by simp)) ds vs h
theorem At.new {p : Addr} {o : HO} (hp : H p = none) {d : PyData} {v : V} (h : At K M H d v) : At K M (upd H p o) d v := At.eff (M' := []) (Eff.refl.put hp) Lists.nil (fun _ z => absurd z (by simp)) d v h
/-- a list of M is changed -/
theorem AtL.put {p : Addr} {xs : List V} {o : HO} (hp : H p = some (.lst xs)) (m : p ∈ M) {ds : List PyData} {vs : List V} (h : AtL K M H ds vs) : AtL K M (upd H p o) ds vs :=
  AtL.eff (M' := [p]) (Eff.refl.set (by simp)) (Lists.one hp rfl) (fun b hb => by rw [List.mem_singleton.mp hb]; exact m) ds vs h
theorem At.put {p : Addr} {xs : List V} {o : HO} (hp : H p = some (.lst xs)) (m : p ∈ M) {d : PyData} {v : V} (h : At K M H d v) : At K M (upd H p o) d v :=
  At.eff (M' := [p]) (Eff.refl.set (by simp)) (Lists.one hp rfl) (fun b hb => by rw [List.mem_singleton.mp hb]; exact m) d v h
theorem SqT.new {p a : Addr} {o : HO} {xs : List V} (hp : H p = none) (h : SqT K H a xs) : SqT K (upd H p o) a xs := (Eff.refl (M := []) |>.put hp).seqT0 h
theorem SqT.put {p a : Addr} {o : HO} {xs ys : List V} (hp : H p = some (.lst ys)) (h : SqT K H a xs) : SqT K (upd H p o) a xs :=
  Eff.seqT (M := [p]) (Eff.refl.set (by simp)) (Lists.one hp rfl) h
theorem AtL.pair {p : Addr} {d e : PyData} {x y : V} (hp : SqT K H p [x, y]) (hx : At K M H d x) (hy : At K M H e y) : At K M H (.tuple [d, e]) (.ref p) := ⟨p, [x, y], rfl, hp, x, [y], rfl, hx, y, [], rfl, hy, rfl⟩
theorem AtL.split : ∀ {ds es : List PyData} {vs : List V}, AtL K M H (ds ++ es) vs → ∃ xs ys, vs = xs ++ ys ∧ AtL K M H ds xs ∧ AtL K M H es ys
  | [], es, vs, h => ⟨[], vs, rfl, rfl, h⟩
  | d :: ds, es, vs, ⟨v, r, ev, h1, h2⟩ => by
    obtain ⟨xs, ys, e, h3, h4⟩ := AtL.split h2
    exact ⟨v :: xs, ys, by rw [ev, e]; rfl, ⟨v, xs, rfl, h1, h3⟩, h4⟩
theorem At.keep {d : PyData} {v : V} (i : imm d = true) (e : Eff M H H1) (l : Lists M H) (h : At K M' H d v) : At K M' H1 d v := At.any (M := M) d v i (At.eff e l (fun _ z => z) d v (At.any d v i h))
theorem AtL.keep {ds : List PyData} {vs : List V} (i : immL ds = true) (e : Eff M H H1) (l : Lists M H) (h : AtL K M' H ds vs) : AtL K M' H1 ds vs := AtL.any (M := M) ds vs i (AtL.eff e l (fun _ z => z) ds vs (AtL.any ds vs i h))
/-- the value v is the lot l -/
def LotAt (K : PySem.W.Frag) (H : Hp) (l : Lot) (v : V) : Prop := At K [] H l.data v
def LotsAt (K : PySem.W.Frag) (H : Hp) (l : List Lot) (vs : List V) : Prop := AtL K [] H (Lot.dataL l) vs
theorem LotAt.keep {l : Lot} {v : V} (h : LotAt K H l v) (e : Eff M H H1) (li : Lists M H) : LotAt K H1 l v := At.keep (imm_lot l) e li h
theorem LotsAt.keep {l : List Lot} {vs : List V} (h : LotsAt K H l vs) (e : Eff M H H1) (li : Lists M H) : LotsAt K H1 l vs := AtL.keep (imm_lots l) e li h
theorem LotAt.same {l : Lot} {v : V} (h : LotAt K H l v) (e : Eff [] H H1) : LotAt K H1 l v := h.keep e Lists.nil
theorem LotsAt.same {l : List Lot} {vs : List V} (h : LotsAt K H l vs) (e : Eff [] H H1) : LotsAt K H1 l vs := h.keep e Lists.nil
theorem LotsAt.length {l : List Lot} {vs : List V} (h : LotsAt K H l vs) : vs.length = l.length := by
  have q := AtL.length h
  rw [q, Lot.dataL_eq, List.length_map]
theorem LotsAt.get {l : List Lot} {vs : List V} {i : Nat} {v : V} (h : LotsAt K H l vs) (e : vs[i]? = some v) : ∃ x, l[i]? = some x ∧ LotAt K H x v := by
  obtain ⟨d, e1, e2⟩ := AtL.get h e
  rw [Lot.dataL_eq, List.getElem?_map] at e1
  cases q : l[i]? with
  | none => rw [q] at e1; cases e1
  | some x => rw [q] at e1; cases e1; exact ⟨x, rfl, e2⟩
/-- the word of a lot -/
def Lot.word : Lot → Str
  | .step => "step"
  | .row _ => "row"
  | .both _ _ => "both"
theorem At.tuple {ds : List PyData} {v : V} (h : At K M H (.tuple ds) v) : ∃ a xs, v = .ref a ∧ SqT K H a xs ∧ AtL K M H ds xs := h
theorem AtL.cons {d : PyData} {ds : List PyData} {vs : List V} (h : AtL K M H (d :: ds) vs) : ∃ v r, vs = v :: r ∧ At K M H d v ∧ AtL K M H ds r := h
theorem At.str {z : Str} {v : V} (h : At K M H (.str z) v) : v = .str z := h
theorem LotAt.tup {l : Lot} {v : V} (h : LotAt K H l v) : ∃ a r, v = .ref a ∧ SqT K H a (.str l.word :: r) := by
  cases l with
  | step =>
    obtain ⟨a, xs, ev, ha, w, r, ex, hw, hr⟩ := h
    obtain rfl : w = V.str "step" := hw
    subst ex
    exact ⟨a, r, ev, ha⟩
  | row l =>
    obtain ⟨a, xs, ev, ha, w, r, ex, hw, hr⟩ := h
    obtain rfl : w = V.str "row" := hw
    subst ex
    exact ⟨a, r, ev, ha⟩
  | both x y =>
    obtain ⟨a, xs, ev, ha, w, r, ex, hw, hr⟩ := h
    obtain rfl : w = V.str "both" := hw
    subst ex
    exact ⟨a, r, ev, ha⟩
end
/-! ### is_lot, as a run over a stack (the top first) -/
def wordD : PyData → Str
  | .tuple (.str w :: _) => w
  | _ => ""
def pairD (p : PyData × Nat) : PyData := .tuple [p.1, .int (p.2 : Nat)]
def lotRun : Nat → List (PyData × Nat) → Nat → Nat → Bool
  | 0, _, _, _ => false
  | _ + 1, [], _, steps => decide (steps ≤ 600)
  | n + 1, (d, dep) :: rest, many, steps => if 4000 < many + 1 ∨ 60 < dep ∨ isForm d = false then false else
      lotRun n (((partsD d).map fun x => (x, dep + 1)).reverse ++ rest) (many + 1) (steps + if wordD d = "step" then 1 else 0)
mutual
def sizeD : PyData → Nat
  | .tuple ds => 1 + sizeL ds
  | .list ds => 1 + sizeL ds
  | _ => 1
def sizeL : List PyData → Nat
  | [] => 0
  | d :: ds => sizeD d + sizeL ds
end
theorem sizeD_pos (d : PyData) : 1 ≤ sizeD d := by
  cases d <;> simp only [sizeD] <;> omega
theorem sizeL_len : ∀ l : List PyData, l.length ≤ sizeL l
  | [] => Nat.le_refl _
  | d :: ds => by
    have h := sizeL_len ds
    have h1 := sizeD_pos d
    rw [List.length_cons, sizeL]
    omega
theorem sizeL_append : ∀ a b : List PyData, sizeL (a ++ b) = sizeL a + sizeL b
  | [], b => by rw [List.nil_append, sizeL, Nat.zero_add]
  | d :: ds, b => by rw [List.cons_append, sizeL, sizeL, sizeL_append ds b]; omega
theorem size_parts {d : PyData} (h : isForm d = true) : sizeL (partsD d) < sizeD d := by
  obtain ⟨z, ds, rfl, cs⟩ := form_inv h
  rcases cs with ⟨rfl, l, rfl⟩ | ⟨rfl, rfl⟩ | ⟨rfl, _⟩
  · simp [partsD, sizeD, sizeL]
    omega
  · simp [partsD, word_sr, word_sb, sizeD, sizeL]
  · simp [partsD, word_br, sizeD, sizeL]
    omega
def stSize (st : List (PyData × Nat)) : Nat := sizeL (st.map (·.1))
theorem sizeL_reverse : ∀ l : List PyData, sizeL l.reverse = sizeL l
  | [] => rfl
  | d :: ds => by rw [List.reverse_cons, sizeL_append, sizeL_reverse ds, sizeL, sizeL, sizeL]; omega
theorem stSize_next {d : PyData} {dep : Nat} {rest : List (PyData × Nat)} (h : isForm d = true) : stSize (((partsD d).map fun x => (x, dep + 1)).reverse ++ rest) ≤ stSize ((d, dep) :: rest) := by
  have h1 := size_parts h
  unfold stSize
  rw [List.map_append, List.map_cons, sizeL_append, sizeL, List.map_reverse, List.map_map, sizeL_reverse]
  have e : ((fun x : PyData × Nat => x.1) ∘ fun x => (x, dep + 1)) = id := rfl
  rw [e, List.map_id]
  show _ ≤ sizeD d + _
  omega
theorem stSize_len (st : List (PyData × Nat)) : st.length ≤ stSize st := by
  have h := sizeL_len (st.map (·.1))
  rw [List.length_map] at h
  exact h
def isLotD (d : PyData) : Bool := lotRun 4002 [(d, 1)] 0 0
/-! ### what a lot has -/
mutual
def Lot.nodes : Lot → Nat
  | .step => 1
  | .row l => 1 + Lot.nodesL l
  | .both a b => 1 + (a.nodes + b.nodes)
def Lot.nodesL : List Lot → Nat
  | [] => 0
  | x :: r => x.nodes + Lot.nodesL r
end
mutual
def Lot.depth : Lot → Nat
  | .step => 1
  | .row l => 1 + Lot.depthL l
  | .both a b => 1 + max a.depth b.depth
def Lot.depthL : List Lot → Nat
  | [] => 0
  | x :: r => max x.depth (Lot.depthL r)
end
mutual
def Lot.steps : Lot → Nat
  | .step => 1
  | .row l => Lot.stepsL l
  | .both a b => a.steps + b.steps
def Lot.stepsL : List Lot → Nat
  | [] => 0
  | x :: r => x.steps + Lot.stepsL r
end
mutual
def Lot.span : Lot → Nat
  | .step => 1
  | .row l => Lot.spanL l
  | .both a b => max a.span b.span
def Lot.spanL : List Lot → Nat
  | [] => 0
  | x :: r => x.span + Lot.spanL r
end
mutual
def Lot.width : Lot → Nat
  | .step => 1
  | .row l => Lot.widthL l
  | .both a b => a.width + b.width
def Lot.widthL : List Lot → Nat
  | [] => 0
  | x :: r => max x.width (Lot.widthL r)
end
theorem nodes_pos (l : Lot) : 1 ≤ l.nodes := by cases l <;> simp only [Lot.nodes] <;> omega
theorem nodes_parts (l : Lot) : l.nodes = 1 + Lot.nodesL l.parts := by
  cases l <;> simp [Lot.nodes, Lot.parts, Lot.nodesL]
theorem depth_pos (l : Lot) : 1 ≤ l.depth := by cases l <;> simp only [Lot.depth] <;> omega
theorem depth_parts (l : Lot) : l.depth = 1 + Lot.depthL l.parts := by
  cases l <;> simp [Lot.depth, Lot.parts, Lot.depthL]
theorem depth_mem : ∀ {l : List Lot} {x : Lot}, x ∈ l → x.depth ≤ Lot.depthL l
  | y :: r, x, h => by
    rcases List.mem_cons.mp h with e | h
    · rw [e, Lot.depthL]; omega
    · have := depth_mem h
      rw [Lot.depthL]; omega
theorem depth_part {l : Lot} {x : Lot} {n i : Nat} (h : l.depth ≤ n + 1) (hx : l.parts[i]? = some x) : x.depth ≤ n := by
  have h1 := depth_parts l
  have h2 := depth_mem (List.mem_of_getElem? hx)
  omega
theorem nodesL_len : ∀ l : List Lot, l.length ≤ Lot.nodesL l
  | [] => Nat.le_refl _
  | x :: r => by
    have h := nodesL_len r
    have h1 := nodes_pos x
    rw [List.length_cons, Lot.nodesL]
    omega
theorem nodesL_append : ∀ a b : List Lot, Lot.nodesL (a ++ b) = Lot.nodesL a + Lot.nodesL b
  | [], b => by rw [List.nil_append, Lot.nodesL, Nat.zero_add]
  | x :: r, b => by rw [List.cons_append, Lot.nodesL, Lot.nodesL, nodesL_append r b]; omega
theorem nodesL_mem : ∀ {l : List Lot} {x : Lot}, x ∈ l → x.nodes ≤ Lot.nodesL l
  | y :: r, x, h => by
    rcases List.mem_cons.mp h with e | h
    · rw [e, Lot.nodesL]; omega
    · have := nodesL_mem h
      rw [Lot.nodesL]; omega
theorem stepsL_append : ∀ a b : List Lot, Lot.stepsL (a ++ b) = Lot.stepsL a + Lot.stepsL b
  | [], b => by rw [List.nil_append, Lot.stepsL, Nat.zero_add]
  | x :: r, b => by rw [List.cons_append, Lot.stepsL, Lot.stepsL, stepsL_append r b]; omega
theorem stepsL_sum : ∀ l : List Lot, Lot.stepsL l = (l.map Lot.steps).sum
  | [] => rfl
  | x :: r => by rw [Lot.stepsL, stepsL_sum r, List.map_cons, List.sum_cons]
theorem spanL_sum : ∀ l : List Lot, Lot.spanL l = (l.map Lot.span).sum
  | [] => rfl
  | x :: r => by rw [Lot.spanL, spanL_sum r, List.map_cons, List.sum_cons]
theorem steps_parts (l : Lot) : l.steps = (if l.word = "step" then 1 else 0) + Lot.stepsL l.parts := by
  cases l <;> simp [Lot.steps, Lot.parts, Lot.stepsL, Lot.word, word_rs, word_bs]
theorem widthL_ge : ∀ {l : List Lot} {x : Lot}, x ∈ l → x.width ≤ Lot.widthL l
  | y :: r, x, h => by
    rcases List.mem_cons.mp h with e | h
    · rw [e, Lot.widthL]; omega
    · have := widthL_ge h
      rw [Lot.widthL]; omega
theorem widthL_mem : ∀ (l : List Lot), Lot.widthL l = 0 ∨ ∃ x ∈ l, x.width = Lot.widthL l
  | [] => .inl rfl
  | y :: r => by
    rw [Lot.widthL]
    by_cases c : Lot.widthL r ≤ y.width
    · exact .inr ⟨y, List.mem_cons_self, by omega⟩
    · rcases widthL_mem r with e | ⟨x, hx, e⟩
      · omega
      · exact .inr ⟨x, List.mem_cons_of_mem _ hx, by omega⟩
theorem wordD_lot (l : Lot) : wordD l.data = l.word := by cases l <;> rfl
theorem sum_cast : ∀ l : List Nat, (l.map fun n : Nat => (n : Int)).sum = ((l.sum : Nat) : Int)
  | [] => rfl
  | x :: r => by rw [List.map_cons, List.sum_cons, sum_cast r, List.sum_cons, Int.natCast_add]
end HK
set_option Elab.async false
set_option linter.all false
set_option maxRecDepth 100000
set_option maxHeartbeats 400000
namespace HK
open PySem PySem.Spec PyProof.Rows L2
/-! ### which lots are lots -/
def stNodes (st : List (Lot × Nat)) : Nat := Lot.nodesL (st.map (·.1))
def stSteps (st : List (Lot × Nat)) : Nat := Lot.stepsL (st.map (·.1))
theorem nodesL_reverse : ∀ l : List Lot, Lot.nodesL l.reverse = Lot.nodesL l
  | [] => rfl
  | d :: ds => by rw [List.reverse_cons, nodesL_append, nodesL_reverse ds, Lot.nodesL, Lot.nodesL, Lot.nodesL]; omega
theorem stepsL_reverse : ∀ l : List Lot, Lot.stepsL l.reverse = Lot.stepsL l
  | [] => rfl
  | d :: ds => by rw [List.reverse_cons, stepsL_append, stepsL_reverse ds, Lot.stepsL, Lot.stepsL, Lot.stepsL]; omega
theorem depthL_le {n : Nat} : ∀ {l : List Lot}, (∀ x ∈ l, x.depth ≤ n) → Lot.depthL l ≤ n
  | [], _ => Nat.zero_le _
  | x :: r, h => by
    have h1 := h x List.mem_cons_self
    have h2 := depthL_le (l := r) fun y hy => h y (List.mem_cons_of_mem _ hy)
    rw [Lot.depthL]
    omega
def stData (st : List (Lot × Nat)) : List (PyData × Nat) := st.map fun p => (p.1.data, p.2)
theorem lotRun_lots : ∀ (n : Nat) (st : List (Lot × Nat)) (many steps : Nat), n + many = 4002 → many ≤ 4000 →
    (lotRun n (stData st) many steps = true ↔ many + stNodes st ≤ 4000 ∧ (∀ p ∈ st, p.2 + p.1.depth ≤ 61) ∧ steps + stSteps st ≤ 600)
  | 0, st, many, steps, h, hm => by omega
  | n + 1, [], many, steps, h, hm => by
    simp [stData, lotRun, stNodes, stSteps, Lot.nodesL, Lot.stepsL]
    omega
  | n + 1, (l, dep) :: rest, many, steps, h, hm => by
    have e0 : stData ((l, dep) :: rest) = (l.data, dep) :: stData rest := rfl
    have np := nodes_pos l
    have dp := depth_pos l
    have en : stNodes ((l, dep) :: rest) = l.nodes + stNodes rest := rfl
    have es : stSteps ((l, dep) :: rest) = l.steps + stSteps rest := rfl
    rw [e0, lotRun]
    by_cases c : 4000 < many + 1 ∨ 60 < dep ∨ isForm l.data = false
    · rw [if_pos c]
      constructor
      · intro z; cases z
      · rintro ⟨h1, h2, h3⟩
        have h4 := h2 _ List.mem_cons_self
        simp only at h4
        rcases c with c | c | c
        · omega
        · omega
        · rw [isForm_lot] at c; cases c
    · rw [if_neg c]
      have c1 : ¬ 4000 < many + 1 := fun z => c (.inl z)
      have c2 : ¬ 60 < dep := fun z => c (.inr (.inl z))
      have e1 : ((partsD l.data).map fun x => (x, dep + 1)).reverse ++ stData rest = stData ((l.parts.map fun x => (x, dep + 1)).reverse ++ rest) := by
        rw [partsD_lot, Lot.dataL_eq]
        unfold stData
        rw [List.map_append, List.map_reverse, List.map_map, List.map_map]
        rfl
      have e2 : (if wordD l.data = "step" then 1 else 0) = (if l.word = "step" then 1 else 0) := by rw [wordD_lot]
      rw [e1, e2, lotRun_lots n _ (many + 1) _ (by omega) (by omega)]
      have n1 := nodes_parts l
      have s1 := steps_parts l
      have d1 := depth_parts l
      have n2 : stNodes ((l.parts.map fun x => (x, dep + 1)).reverse ++ rest) = Lot.nodesL l.parts + stNodes rest := by
        unfold stNodes
        rw [List.map_append, nodesL_append, List.map_reverse, List.map_map, nodesL_reverse]
        have e : ((fun x : Lot × Nat => x.1) ∘ fun x => (x, dep + 1)) = id := rfl
        rw [e, List.map_id]
      have s2 : stSteps ((l.parts.map fun x => (x, dep + 1)).reverse ++ rest) = Lot.stepsL l.parts + stSteps rest := by
        unfold stSteps
        rw [List.map_append, stepsL_append, List.map_reverse, List.map_map, stepsL_reverse]
        have e : ((fun x : Lot × Nat => x.1) ∘ fun x => (x, dep + 1)) = id := rfl
        rw [e, List.map_id]
      rw [n2, s2, en, es]
      constructor
      · rintro ⟨h1, h2, h3⟩
        refine ⟨by omega, fun p hp => ?_, by omega⟩
        rcases List.mem_cons.mp hp with e | hp
        · subst e
          show dep + l.depth ≤ 61
          have h4 : Lot.depthL l.parts ≤ 60 - dep := depthL_le fun x hx => by
            have := h2 (x, dep + 1) (List.mem_append_left _ (List.mem_reverse.mpr (List.mem_map.mpr ⟨x, hx, rfl⟩)))
            simp only at this
            omega
          omega
        · exact h2 p (List.mem_append_right _ hp)
      · rintro ⟨h1, h2, h3⟩
        refine ⟨by omega, fun p hp => ?_, by omega⟩
        rcases List.mem_append.mp hp with hp | hp
        · obtain ⟨x, hx, e⟩ := List.mem_map.mp (List.mem_reverse.mp hp)
          subst e
          have h4 := depth_mem hx
          have h5 := h2 (l, dep) List.mem_cons_self
          simp only at h5 ⊢
          omega
        · exact h2 p (List.mem_cons_of_mem _ hp)
theorem isLot_iff (l : Lot) : isLotD l.data = true ↔ l.nodes ≤ 4000 ∧ l.depth ≤ 60 ∧ l.steps ≤ 600 := by
  have h := lotRun_lots 4002 [(l, 1)] 0 0 rfl (by decide)
  unfold isLotD
  have e : stData [(l, 1)] = [(l.data, 1)] := rfl
  rw [e] at h
  rw [h]
  have en : stNodes [(l, 1)] = l.nodes := by simp [stNodes, Lot.nodesL]
  have es : stSteps [(l, 1)] = l.steps := by simp [stSteps, Lot.stepsL]
  rw [en, es]
  constructor
  · rintro ⟨h1, h2, h3⟩
    have := h2 (l, 1) (by simp)
    simp only at this
    omega
  · rintro ⟨h1, h2, h3⟩
    refine ⟨by omega, fun p hp => ?_, by omega⟩
    rw [List.mem_singleton.mp hp]
    show 1 + l.depth ≤ 61
    omega
mutual
theorem size_lot : ∀ l : Lot, sizeD l.data ≤ 3 * l.nodes
  | .step => by simp [Lot.data, sizeD, sizeL, Lot.nodes]
  | .row l => by
    have h := size_lots l
    simp only [Lot.data, sizeD, sizeL, Lot.nodes]
    omega
  | .both a b => by
    have h1 := size_lot a
    have h2 := size_lot b
    simp only [Lot.data, sizeD, sizeL, Lot.nodes]
    omega
theorem size_lots : ∀ l : List Lot, sizeL (Lot.dataL l) ≤ 3 * Lot.nodesL l
  | [] => Nat.le_refl _
  | x :: r => by
    have h1 := size_lot x
    have h2 := size_lots r
    simp only [Lot.dataL, sizeL, Lot.nodesL]
    omega
end
mutual
theorem steps_nodes : ∀ l : Lot, l.steps ≤ l.nodes
  | .step => Nat.le_refl _
  | .row l => by
    have h := steps_nodesL l
    simp only [Lot.steps, Lot.nodes]
    omega
  | .both a b => by
    have h1 := steps_nodes a
    have h2 := steps_nodes b
    simp only [Lot.steps, Lot.nodes]
    omega
theorem steps_nodesL : ∀ l : List Lot, Lot.stepsL l ≤ Lot.nodesL l
  | [] => Nat.le_refl _
  | x :: r => by
    have h1 := steps_nodes x
    have h2 := steps_nodesL r
    simp only [Lot.stepsL, Lot.nodesL]
    omega
end
end HK
set_option Elab.async false
set_option linter.all false
set_option maxRecDepth 100000
set_option maxHeartbeats 1000000
namespace HK
/-! ### first ones, last ones, which come right behind which; by absolute numbers -/
mutual
def firsts : Lot → Nat → List Nat
  | .step, f => [f]
  | .row l, f => firstsR l f
  | .both a b, f => firsts a f ++ firsts b (f + a.steps)
def firstsR : List Lot → Nat → List Nat
  | [], _ => []
  | x :: r, f => if x.steps = 0 then firstsR r f else firsts x f
end
mutual
def lasts : Lot → Nat → List Nat
  | .step, f => [f]
  | .row l, f => lastsR l f
  | .both a b, f => lasts a f ++ lasts b (f + a.steps)
def lastsR : List Lot → Nat → List Nat
  | [], _ => []
  | x :: r, f => if Lot.stepsL r = 0 then lasts x f else lastsR r (f + x.steps)
end
mutual
def adds : Lot → Nat → Nat → List Nat
  | .step, _, _ => []
  | .row l, f, i => addsR l f i
  | .both a b, f, i => if i < f + a.steps then adds a f i else adds b (f + a.steps) i
def addsR : List Lot → Nat → Nat → List Nat
  | [], _, _ => []
  | x :: r, f, i => if i < f + x.steps then adds x f i ++ (if i ∈ lasts x f then firstsR r (f + x.steps) else []) else addsR r (f + x.steps) i
end
/-! ### levels, heights -/
mutual
def levF : Lot → Nat → Nat → Nat → Nat
  | .step, _, b, _ => b + 1
  | .row l, f, b, j => levR l f b j
  | .both x y, f, b, j => if j < f + x.steps then levF x f b j else levF y (f + x.steps) b j
def levR : List Lot → Nat → Nat → Nat → Nat
  | [], _, _, _ => 0
  | x :: r, f, b, j => if j < f + x.steps then levF x f b j else levR r (f + x.steps) (b + x.span) j
end
mutual
def heiF : Lot → Nat → Nat → Nat → Nat
  | .step, _, t, _ => t + 1
  | .row l, f, t, j => heiR l f t j
  | .both x y, f, t, j => if j < f + x.steps then heiF x f t j else heiF y (f + x.steps) t j
def heiR : List Lot → Nat → Nat → Nat → Nat
  | [], _, _, _ => 0
  | x :: r, f, t, j => if j < f + x.steps then heiF x f (t + Lot.spanL r) j else heiR r (f + x.steps) t j
end
mutual
theorem span_zero : ∀ l : Lot, l.steps = 0 ↔ l.span = 0
  | .step => by simp [Lot.steps, Lot.span]
  | .row l => by
    have h := span_zeroL l
    simpa [Lot.steps, Lot.span] using h
  | .both a b => by
    have h1 := span_zero a
    have h2 := span_zero b
    simp only [Lot.steps, Lot.span]
    omega
theorem span_zeroL : ∀ l : List Lot, Lot.stepsL l = 0 ↔ Lot.spanL l = 0
  | [] => by simp [Lot.stepsL, Lot.spanL]
  | x :: r => by
    have h1 := span_zero x
    have h2 := span_zeroL r
    simp only [Lot.stepsL, Lot.spanL]
    omega
end
mutual
theorem firsts_in : ∀ (l : Lot) (f j : Nat), j ∈ firsts l f → f ≤ j ∧ j < f + l.steps
  | .step, f, j, h => by simp [firsts, Lot.steps] at h ⊢; omega
  | .row l, f, j, h => by simp only [firsts, Lot.steps] at h ⊢; exact firstsR_in l f j h
  | .both a b, f, j, h => by
    simp only [firsts, Lot.steps] at h ⊢
    rcases List.mem_append.mp h with h | h
    · have := firsts_in a f j h; omega
    · have := firsts_in b _ j h; omega
theorem firstsR_in : ∀ (l : List Lot) (f j : Nat), j ∈ firstsR l f → f ≤ j ∧ j < f + Lot.stepsL l
  | [], f, j, h => by simp [firstsR] at h
  | x :: r, f, j, h => by
    simp only [firstsR, Lot.stepsL] at h ⊢
    split at h
    · have := firstsR_in r f j h; omega
    · have := firsts_in x f j h; omega
end
mutual
theorem lasts_in : ∀ (l : Lot) (f j : Nat), j ∈ lasts l f → f ≤ j ∧ j < f + l.steps
  | .step, f, j, h => by simp [lasts, Lot.steps] at h ⊢; omega
  | .row l, f, j, h => by simp only [lasts, Lot.steps] at h ⊢; exact lastsR_in l f j h
  | .both a b, f, j, h => by
    simp only [lasts, Lot.steps] at h ⊢
    rcases List.mem_append.mp h with h | h
    · have := lasts_in a f j h; omega
    · have := lasts_in b _ j h; omega
theorem lastsR_in : ∀ (l : List Lot) (f j : Nat), j ∈ lastsR l f → f ≤ j ∧ j < f + Lot.stepsL l
  | [], f, j, h => by simp [lastsR] at h
  | x :: r, f, j, h => by
    simp only [lastsR, Lot.stepsL] at h ⊢
    split at h
    · have := lasts_in x f j h; omega
    · have := lastsR_in r _ j h; omega
end
mutual
theorem lev_in : ∀ (l : Lot) (f b j : Nat), f ≤ j → j < f + l.steps → b + 1 ≤ levF l f b j ∧ levF l f b j ≤ b + l.span
  | .step, f, b, j, _, _ => by simp [levF, Lot.span]
  | .row l, f, b, j, h1, h2 => by simp only [levF, Lot.steps, Lot.span] at *; exact levR_in l f b j h1 h2
  | .both x y, f, b, j, h1, h2 => by
    simp only [levF, Lot.steps, Lot.span] at *
    split
    · have := lev_in x f b j h1 (by assumption); omega
    · have := lev_in y (f + x.steps) b j (by omega) (by omega); omega
theorem levR_in : ∀ (l : List Lot) (f b j : Nat), f ≤ j → j < f + Lot.stepsL l → b + 1 ≤ levR l f b j ∧ levR l f b j ≤ b + Lot.spanL l
  | [], f, b, j, h1, h2 => by simp [Lot.stepsL] at h2; omega
  | x :: r, f, b, j, h1, h2 => by
    simp only [levR, Lot.stepsL, Lot.spanL] at *
    split
    · have := lev_in x f b j h1 (by assumption); omega
    · have := levR_in r (f + x.steps) (b + x.span) j (by omega) (by omega); omega
end
mutual
theorem hei_in : ∀ (l : Lot) (f t j : Nat), f ≤ j → j < f + l.steps → t + 1 ≤ heiF l f t j ∧ heiF l f t j ≤ t + l.span
  | .step, f, b, j, _, _ => by simp [heiF, Lot.span]
  | .row l, f, b, j, h1, h2 => by simp only [heiF, Lot.steps, Lot.span] at *; exact heiR_in l f b j h1 h2
  | .both x y, f, b, j, h1, h2 => by
    simp only [heiF, Lot.steps, Lot.span] at *
    split
    · have := hei_in x f b j h1 (by assumption); omega
    · have := hei_in y (f + x.steps) b j (by omega) (by omega); omega
theorem heiR_in : ∀ (l : List Lot) (f t j : Nat), f ≤ j → j < f + Lot.stepsL l → t + 1 ≤ heiR l f t j ∧ heiR l f t j ≤ t + Lot.spanL l
  | [], f, t, j, h1, h2 => by simp [Lot.stepsL] at h2; omega
  | x :: r, f, t, j, h1, h2 => by
    simp only [heiR, Lot.stepsL, Lot.spanL] at *
    split
    · have := hei_in x f (t + Lot.spanL r) j h1 (by assumption); omega
    · have := heiR_in r (f + x.steps) t j (by omega) (by omega); omega
end
mutual
/-- the first ones have the least level -/
theorem lev_first : ∀ (l : Lot) (f b j : Nat), j ∈ firsts l f → levF l f b j = b + 1
  | .step, f, b, j, _ => rfl
  | .row l, f, b, j, h => by simp only [levF, firsts] at *; exact levR_first l f b j h
  | .both x y, f, b, j, h => by
    simp only [levF, firsts] at *
    rcases List.mem_append.mp h with h | h
    · have q := firsts_in x f j h
      rw [if_pos q.2]; exact lev_first x f b j h
    · have q := firsts_in y _ j h
      rw [if_neg (by omega)]; exact lev_first y _ b j h
theorem levR_first : ∀ (l : List Lot) (f b j : Nat), j ∈ firstsR l f → levR l f b j = b + 1
  | [], f, b, j, h => by simp [firstsR] at h
  | x :: r, f, b, j, h => by
    simp only [levR, firstsR] at *
    have z := span_zero x
    split at h
    · rename_i e
      have q := firstsR_in r f j h
      rw [if_neg (by omega), levR_first r _ _ j (by rw [e]; exact h)]
      omega
    · have q := firsts_in x f j h
      rw [if_pos q.2]; exact lev_first x f b j h
end
mutual
theorem lev_last : ∀ (l : Lot) (f b : Nat), 0 < l.steps → ∃ i ∈ lasts l f, levF l f b i = b + l.span
  | .step, f, b, _ => ⟨f, by simp [lasts], rfl⟩
  | .row l, f, b, h => by simp only [levF, lasts, Lot.span, Lot.steps] at *; exact levR_last l f b h
  | .both x y, f, b, h => by
    have zx := span_zero x
    have zy := span_zero y
    simp only [levF, lasts, Lot.span, Lot.steps] at *
    by_cases c : y.span ≤ x.span
    · obtain ⟨i, hi, e⟩ := lev_last x f b (by omega)
      have q := lasts_in x f i hi
      exact ⟨i, List.mem_append_left _ hi, by rw [if_pos q.2, e]; omega⟩
    · obtain ⟨i, hi, e⟩ := lev_last y (f + x.steps) b (by omega)
      have q := lasts_in y _ i hi
      exact ⟨i, List.mem_append_right _ hi, by rw [if_neg (by omega), e]; omega⟩
theorem levR_last : ∀ (l : List Lot) (f b : Nat), 0 < Lot.stepsL l → ∃ i ∈ lastsR l f, levR l f b i = b + Lot.spanL l
  | [], f, b, h => by simp [Lot.stepsL] at h
  | x :: r, f, b, h => by
    have zr := span_zeroL r
    simp only [levR, lastsR, Lot.spanL, Lot.stepsL] at *
    split
    · rename_i e
      obtain ⟨i, hi, q⟩ := lev_last x f b (by omega)
      have q2 := lasts_in x f i hi
      exact ⟨i, hi, by rw [if_pos q2.2, q]; omega⟩
    · obtain ⟨i, hi, q⟩ := levR_last r (f + x.steps) (b + x.span) (by omega)
      have q2 := lastsR_in r _ i hi
      exact ⟨i, hi, by rw [if_neg (by omega), q]; omega⟩
end
mutual
/-- the last ones have the least height -/
theorem hei_last : ∀ (l : Lot) (f t j : Nat), j ∈ lasts l f → heiF l f t j = t + 1
  | .step, f, b, j, _ => rfl
  | .row l, f, b, j, h => by simp only [heiF, lasts] at *; exact heiR_last l f b j h
  | .both x y, f, b, j, h => by
    simp only [heiF, lasts] at *
    rcases List.mem_append.mp h with h | h
    · have q := lasts_in x f j h
      rw [if_pos q.2]; exact hei_last x f b j h
    · have q := lasts_in y _ j h
      rw [if_neg (by omega)]; exact hei_last y _ b j h
theorem heiR_last : ∀ (l : List Lot) (f t j : Nat), j ∈ lastsR l f → heiR l f t j = t + 1
  | [], f, t, j, h => by simp [lastsR] at h
  | x :: r, f, t, j, h => by
    have zr := span_zeroL r
    simp only [heiR, lastsR] at *
    split at h
    · have q := lasts_in x f j h
      rw [if_pos q.2, hei_last x f _ j h]
      omega
    · have q := lastsR_in r _ j h
      rw [if_neg (by omega)]; exact heiR_last r _ t j h
end
mutual
theorem hei_first : ∀ (l : Lot) (f t : Nat), 0 < l.steps → ∃ i ∈ firsts l f, heiF l f t i = t + l.span
  | .step, f, b, _ => ⟨f, by simp [firsts], rfl⟩
  | .row l, f, b, h => by simp only [heiF, firsts, Lot.span, Lot.steps] at *; exact heiR_first l f b h
  | .both x y, f, b, h => by
    have zx := span_zero x
    have zy := span_zero y
    simp only [heiF, firsts, Lot.span, Lot.steps] at *
    by_cases c : y.span ≤ x.span
    · obtain ⟨i, hi, e⟩ := hei_first x f b (by omega)
      have q := firsts_in x f i hi
      exact ⟨i, List.mem_append_left _ hi, by rw [if_pos q.2, e]; omega⟩
    · obtain ⟨i, hi, e⟩ := hei_first y (f + x.steps) b (by omega)
      have q := firsts_in y _ i hi
      exact ⟨i, List.mem_append_right _ hi, by rw [if_neg (by omega), e]; omega⟩
theorem heiR_first : ∀ (l : List Lot) (f t : Nat), 0 < Lot.stepsL l → ∃ i ∈ firstsR l f, heiR l f t i = t + Lot.spanL l
  | [], f, t, h => by simp [Lot.stepsL] at h
  | x :: r, f, t, h => by
    have zx := span_zero x
    simp only [heiR, firstsR, Lot.spanL, Lot.stepsL] at *
    split
    · rename_i e
      obtain ⟨i, hi, q⟩ := heiR_first r f t (by omega)
      have q2 := firstsR_in r f i hi
      exact ⟨i, hi, by rw [if_neg (by omega), e, Nat.add_zero, q]; omega⟩
    · obtain ⟨i, hi, q⟩ := hei_first x f (t + Lot.spanL r) (by omega)
      have q2 := firsts_in x _ i hi
      exact ⟨i, hi, by rw [if_pos q2.2, q]; omega⟩
end
mutual
/-- what comes right behind comes later, is lower, has a greater level -/
theorem adds_in : ∀ (l : Lot) (f i j : Nat), f ≤ i → i < f + l.steps → j ∈ adds l f i → i < j ∧ j < f + l.steps ∧ (∀ b, levF l f b i + 1 ≤ levF l f b j) ∧ ∀ t, heiF l f t j + 1 ≤ heiF l f t i
  | .step, f, i, j, _, _, h => by simp [adds] at h
  | .row l, f, i, j, h1, h2, h => by simp only [adds, Lot.steps, levF, heiF] at *; exact addsR_in l f i j h1 h2 h
  | .both x y, f, i, j, h1, h2, h => by
    simp only [adds, Lot.steps, levF, heiF] at *
    split at h
    · rename_i c
      obtain ⟨q1, q2, q3, q4⟩ := adds_in x f i j h1 c h
      refine ⟨q1, by omega, fun b => ?_, fun t => ?_⟩
      · rw [if_pos c, if_pos q2]; exact q3 b
      · rw [if_pos c, if_pos q2]; exact q4 t
    · rename_i c
      obtain ⟨q1, q2, q3, q4⟩ := adds_in y _ i j (by omega) (by omega) h
      refine ⟨q1, by omega, fun b => ?_, fun t => ?_⟩
      · rw [if_neg c, if_neg (by omega)]; exact q3 b
      · rw [if_neg c, if_neg (by omega)]; exact q4 t
theorem addsR_in : ∀ (l : List Lot) (f i j : Nat), f ≤ i → i < f + Lot.stepsL l → j ∈ addsR l f i → i < j ∧ j < f + Lot.stepsL l ∧ (∀ b, levR l f b i + 1 ≤ levR l f b j) ∧ ∀ t, heiR l f t j + 1 ≤ heiR l f t i
  | [], f, i, j, _, _, h => by simp [addsR] at h
  | x :: r, f, i, j, h1, h2, h => by
    simp only [addsR, Lot.stepsL, levR, heiR] at *
    split at h
    · rename_i c
      rcases List.mem_append.mp h with h | h
      · obtain ⟨q1, q2, q3, q4⟩ := adds_in x f i j h1 c h
        refine ⟨q1, by omega, fun b => ?_, fun t => ?_⟩
        · rw [if_pos c, if_pos q2]; exact q3 b
        · rw [if_pos c, if_pos q2]; exact q4 _
      · split at h
        · rename_i hl
          have q := firstsR_in r _ j h
          refine ⟨by omega, by omega, fun b => ?_, fun t => ?_⟩
          · rw [if_pos c, if_neg (by omega), levR_first r _ _ j h]
            have := lev_in x f b i h1 c
            omega
          · rw [if_pos c, if_neg (by omega), hei_last x f _ i hl]
            have := heiR_in r (f + x.steps) t j (by omega) (by omega)
            omega
        · cases h
    · rename_i c
      obtain ⟨q1, q2, q3, q4⟩ := addsR_in r _ i j (by omega) (by omega) h
      refine ⟨q1, by omega, fun b => ?_, fun t => ?_⟩
      · rw [if_neg c, if_neg (by omega)]; exact q3 _
      · rw [if_neg c, if_neg (by omega)]; exact q4 t
end
mutual
/-- a step is a first one, or comes right behind one of the level ahead -/
theorem lev_from : ∀ (l : Lot) (f b j : Nat), f ≤ j → j < f + l.steps → j ∈ firsts l f ∨ ∃ i, f ≤ i ∧ i < f + l.steps ∧ j ∈ adds l f i ∧ levF l f b j = levF l f b i + 1
  | .step, f, b, j, h1, h2 => .inl (by simp [firsts, Lot.steps] at *; omega)
  | .row l, f, b, j, h1, h2 => by simp only [firsts, Lot.steps, adds, levF] at *; exact levR_from l f b j h1 h2
  | .both x y, f, b, j, h1, h2 => by
    simp only [firsts, Lot.steps, adds, levF] at *
    by_cases c : j < f + x.steps
    · rcases lev_from x f b j h1 c with h | ⟨i, q1, q2, q3, q4⟩
      · exact .inl (List.mem_append_left _ h)
      · exact .inr ⟨i, q1, by omega, by rw [if_pos q2]; exact q3, by rw [if_pos c, if_pos q2]; exact q4⟩
    · rcases lev_from y (f + x.steps) b j (by omega) (by omega) with h | ⟨i, q1, q2, q3, q4⟩
      · exact .inl (List.mem_append_right _ h)
      · exact .inr ⟨i, by omega, by omega, by rw [if_neg (by omega)]; exact q3, by rw [if_neg c, if_neg (by omega)]; exact q4⟩
theorem levR_from : ∀ (l : List Lot) (f b j : Nat), f ≤ j → j < f + Lot.stepsL l → j ∈ firstsR l f ∨ ∃ i, f ≤ i ∧ i < f + Lot.stepsL l ∧ j ∈ addsR l f i ∧ levR l f b j = levR l f b i + 1
  | [], f, b, j, h1, h2 => by simp [Lot.stepsL] at h2; omega
  | x :: r, f, b, j, h1, h2 => by
    simp only [firstsR, Lot.stepsL, addsR, levR] at *
    by_cases c : j < f + x.steps
    · rw [if_neg (by omega)]
      rcases lev_from x f b j h1 c with h | ⟨i, q1, q2, q3, q4⟩
      · exact .inl h
      · exact .inr ⟨i, q1, by omega, by rw [if_pos q2]; exact List.mem_append_left _ q3, by rw [if_pos c, if_pos q2]; exact q4⟩
    · rcases levR_from r (f + x.steps) (b + x.span) j (by omega) (by omega) with h | ⟨i, q1, q2, q3, q4⟩
      · by_cases e : x.steps = 0
        · rw [if_pos e]
          rw [e] at h
          exact .inl h
        · obtain ⟨i, hi, q⟩ := lev_last x f b (by omega)
          have q2 := lasts_in x f i hi
          refine .inr ⟨i, q2.1, by omega, ?_, ?_⟩
          · rw [if_pos q2.2, if_pos hi]
            exact List.mem_append_right _ h
          · rw [if_neg c, if_pos q2.2, q, levR_first r _ _ j h]
      · exact .inr ⟨i, by omega, by omega, by rw [if_neg (by omega)]; exact q3, by rw [if_neg c, if_neg (by omega)]; exact q4⟩
end
mutual
theorem hei_from : ∀ (l : Lot) (f t i : Nat), f ≤ i → i < f + l.steps → i ∈ lasts l f ∨ ∃ j ∈ adds l f i, heiF l f t i = heiF l f t j + 1
  | .step, f, b, j, h1, h2 => .inl (by simp [lasts, Lot.steps] at *; omega)
  | .row l, f, b, j, h1, h2 => by simp only [lasts, Lot.steps, adds, heiF] at *; exact heiR_from l f b j h1 h2
  | .both x y, f, b, i, h1, h2 => by
    simp only [lasts, Lot.steps, adds, heiF] at *
    by_cases c : i < f + x.steps
    · rcases hei_from x f b i h1 c with h | ⟨j, q1, q2⟩
      · exact .inl (List.mem_append_left _ h)
      · have q := adds_in x f i j h1 c q1
        exact .inr ⟨j, by rw [if_pos c]; exact q1, by rw [if_pos c, if_pos q.2.1]; exact q2⟩
    · rcases hei_from y (f + x.steps) b i (by omega) (by omega) with h | ⟨j, q1, q2⟩
      · exact .inl (List.mem_append_right _ h)
      · have q := adds_in y _ i j (by omega) (by omega) q1
        exact .inr ⟨j, by rw [if_neg c]; exact q1, by rw [if_neg c, if_neg (by omega)]; exact q2⟩
theorem heiR_from : ∀ (l : List Lot) (f t i : Nat), f ≤ i → i < f + Lot.stepsL l → i ∈ lastsR l f ∨ ∃ j ∈ addsR l f i, heiR l f t i = heiR l f t j + 1
  | [], f, b, j, h1, h2 => by simp [Lot.stepsL] at h2; omega
  | x :: r, f, t, i, h1, h2 => by
    simp only [lastsR, Lot.stepsL, addsR, heiR] at *
    by_cases c : i < f + x.steps
    · rcases hei_from x f (t + Lot.spanL r) i h1 c with h | ⟨j, q1, q2⟩
      · by_cases e : Lot.stepsL r = 0
        · rw [if_pos e]; exact .inl h
        · obtain ⟨j, hj, q⟩ := heiR_first r (f + x.steps) t (by omega)
          have q2 := firstsR_in r _ j hj
          refine .inr ⟨j, ?_, ?_⟩
          · rw [if_pos c, if_pos h]; exact List.mem_append_right _ hj
          · rw [if_pos c, if_neg (by omega), q, hei_last x f _ i h]
      · have q := adds_in x f i j h1 c q1
        exact .inr ⟨j, by rw [if_pos c]; exact List.mem_append_left _ q1, by rw [if_pos c, if_pos q.2.1]; exact q2⟩
    · rcases heiR_from r (f + x.steps) t i (by omega) (by omega) with h | ⟨j, q1, q2⟩
      · by_cases e : Lot.stepsL r = 0
        · omega
        · rw [if_neg e]; exact .inl h
      · have q := addsR_in r _ i j (by omega) (by omega) q1
        exact .inr ⟨j, by rw [if_neg c]; exact q1, by rw [if_neg c, if_neg (by omega)]; exact q2⟩
end
end HK
set_option Elab.async false
set_option linter.all false
set_option maxRecDepth 100000
set_option maxHeartbeats 1000000
namespace HK
/-! ### what tied joins -/
mutual
theorem adds_out : ∀ (l : Lot) (f i j : Nat), j ∈ adds l f i → f ≤ i ∧ i < f + l.steps
  | .step, f, i, j, h => by simp [adds] at h
  | .row l, f, i, j, h => by simp only [adds, Lot.steps] at *; exact addsR_out l f i j h
  | .both x y, f, i, j, h => by
    simp only [adds, Lot.steps] at *
    split at h
    · have := adds_out x f i j h; omega
    · have := adds_out y _ i j h; omega
theorem addsR_out : ∀ (l : List Lot) (f i j : Nat), j ∈ addsR l f i → f ≤ i ∧ i < f + Lot.stepsL l
  | [], f, i, j, h => by simp [addsR] at h
  | x :: r, f, i, j, h => by
    simp only [addsR, Lot.stepsL] at *
    split at h
    · rcases List.mem_append.mp h with h | h
      · have := adds_out x f i j h; omega
      · split at h
        · rename_i hl
          have := lasts_in x f i hl
          omega
        · cases h
    · have := addsR_out r _ i j h; omega
end
theorem adds_nil {l : Lot} {f i : Nat} (h : ¬ (f ≤ i ∧ i < f + l.steps)) : adds l f i = [] := by
  cases e : adds l f i with
  | nil => rfl
  | cons j r => exact absurd (adds_out l f i j (by rw [e]; simp)) h
theorem addsR_nil {l : List Lot} {f i : Nat} (h : ¬ (f ≤ i ∧ i < f + Lot.stepsL l)) : addsR l f i = [] := by
  cases e : addsR l f i with
  | nil => rfl
  | cons j r => exact absurd (addsR_out l f i j (by rw [e]; simp)) h
theorem firsts_nil {l : Lot} {f : Nat} (h : l.steps = 0) : firsts l f = [] := by
  cases e : firsts l f with
  | nil => rfl
  | cons j r => have := firsts_in l f j (by rw [e]; simp); omega
theorem lasts_nil {l : Lot} {f : Nat} (h : l.steps = 0) : lasts l f = [] := by
  cases e : lasts l f with
  | nil => rfl
  | cons j r => have := lasts_in l f j (by rw [e]; simp); omega
theorem firstsR_nil {l : List Lot} {f : Nat} (h : Lot.stepsL l = 0) : firstsR l f = [] := by
  cases e : firstsR l f with
  | nil => rfl
  | cons j r => have := firstsR_in l f j (by rw [e]; simp); omega
theorem lastsR_nil {l : List Lot} {f : Nat} (h : Lot.stepsL l = 0) : lastsR l f = [] := by
  cases e : lastsR l f with
  | nil => rfl
  | cons j r => have := lastsR_in l f j (by rw [e]; simp); omega
mutual
theorem lasts_nodup : ∀ (l : Lot) (f : Nat), (lasts l f).Nodup
  | .step, f => by simp [lasts]
  | .row l, f => lastsR_nodup l f
  | .both a b, f => by
    rw [lasts]
    refine List.nodup_append.mpr ⟨lasts_nodup a f, lasts_nodup b _, fun x hx y hy => ?_⟩
    have h1 := lasts_in a f x hx
    have h2 := lasts_in b _ y hy
    omega
theorem lastsR_nodup : ∀ (l : List Lot) (f : Nat), (lastsR l f).Nodup
  | [], f => by simp [lastsR]
  | x :: r, f => by
    rw [lastsR]
    split
    · exact lasts_nodup x f
    · exact lastsR_nodup r _
end
/-- the parts with steps in them, each with the number of its first -/
def ne : List Lot → Nat → List (Lot × Nat)
  | [], _ => []
  | x :: r, f => if x.steps = 0 then ne r f else (x, f) :: ne r (f + x.steps)
theorem ne_in : ∀ (l : List Lot) (f : Nat) (e : Lot × Nat), e ∈ ne l f → f ≤ e.2 ∧ e.2 + e.1.steps ≤ f + Lot.stepsL l ∧ 0 < e.1.steps
  | [], f, e, h => by simp [ne] at h
  | x :: r, f, e, h => by
    rw [ne] at h
    rw [Lot.stepsL]
    split at h
    · have := ne_in r f e h; omega
    · rcases List.mem_cons.mp h with h | h
      · subst h; simp only; omega
      · have := ne_in r _ e h; omega
theorem ne_snoc : ∀ (l : List Lot) (x : Lot) (f : Nat), ne (l ++ [x]) f = ne l f ++ if x.steps = 0 then [] else [(x, f + Lot.stepsL l)]
  | [], x, f => by simp [ne, Lot.stepsL]
  | y :: r, x, f => by
    rw [List.cons_append, ne, ne, Lot.stepsL]
    split
    · rename_i h
      rw [ne_snoc r x f, h, Nat.zero_add]
    · rw [ne_snoc r x _, List.cons_append, Nat.add_assoc]
theorem ne_len : ∀ (l : List Lot) (f : Nat), (ne l f).length ≤ l.length
  | [], f => Nat.le_refl _
  | x :: r, f => by
    rw [ne]
    split
    · have := ne_len r f; rw [List.length_cons]; omega
    · have := ne_len r (f + x.steps); rw [List.length_cons, List.length_cons]; omega
theorem ne_nil {l : List Lot} {f : Nat} (h : ne l f = []) : Lot.stepsL l = 0 := by
  induction l generalizing f with
  | nil => rfl
  | cons x r ih =>
    rw [ne] at h
    split at h
    · rw [Lot.stepsL, ih h]; omega
    · cases h
theorem firstsR_ne : ∀ (l : List Lot) (f : Nat), firstsR l f = (match ne l f with
    | [] => []
    | e :: _ => firsts e.1 e.2)
  | [], f => rfl
  | x :: r, f => by
    rw [firstsR, ne]
    split
    · exact firstsR_ne r f
    · rfl
theorem lastsR_ne : ∀ (l : List Lot) (f : Nat) (e : Lot × Nat), (ne l f).getLast? = some e → lastsR l f = lasts e.1 e.2
  | [], f, e, h => by simp [ne] at h
  | x :: r, f, e, h => by
    have ih := lastsR_ne r (f + x.steps) e
    rw [ne] at h
    rw [lastsR]
    by_cases hr : Lot.stepsL r = 0
    · have z : ∀ f, ne r f = [] := fun f => by
        cases e : ne r f with
        | nil => rfl
        | cons y t => have := ne_in r f y (by rw [e]; simp); omega
      rw [if_pos hr]
      rw [z, z] at h
      by_cases hx : x.steps = 0
      · rw [if_pos hx] at h; cases h
      · rw [if_neg hx] at h
        obtain rfl : (x, f) = e := Option.some.inj h
        rfl
    · rw [if_neg hr]
      by_cases hx : x.steps = 0
      · rw [if_pos hx] at h
        rw [hx, Nat.add_zero] at ih ⊢
        exact ih h
      · rw [if_neg hx] at h
        cases q : ne r (f + x.steps) with
        | nil => exact absurd (ne_nil q) hr
        | cons y t => rw [q, List.getLast?_cons_cons] at h; exact ih (by rw [q]; exact h)
/-- the first ones, the last ones of all together -/
def firstsE (es : List (Lot × Nat)) : List Nat := es.flatMap fun e => firsts e.1 e.2
def lastsE (es : List (Lot × Nat)) : List Nat := es.flatMap fun e => lasts e.1 e.2
theorem firsts_both (a b : Lot) (f : Nat) : firsts (.both a b) f = firstsE (ne [a, b] f) := by
  rw [firsts]
  simp only [ne, firstsE]
  by_cases ha : a.steps = 0
  · rw [if_pos ha, firsts_nil ha, ha]
    by_cases hb : b.steps = 0
    · rw [if_pos hb, firsts_nil hb]; rfl
    · rw [if_neg hb]; simp
  · rw [if_neg ha]
    by_cases hb : b.steps = 0
    · rw [if_pos hb, firsts_nil hb]; simp
    · rw [if_neg hb]; simp
theorem lasts_both (a b : Lot) (f : Nat) : lasts (.both a b) f = lastsE (ne [a, b] f) := by
  rw [lasts]
  simp only [ne, lastsE]
  by_cases ha : a.steps = 0
  · rw [if_pos ha, lasts_nil ha, ha]
    by_cases hb : b.steps = 0
    · rw [if_pos hb, lasts_nil hb]; rfl
    · rw [if_neg hb]; simp
  · rw [if_neg ha]
    by_cases hb : b.steps = 0
    · rw [if_pos hb, lasts_nil hb]; simp
    · rw [if_neg hb]; simp
/-- what the parts add, each by itself -/
def addsP : List Lot → Nat → Nat → List Nat
  | [], _, _ => []
  | x :: r, f, i => adds x f i ++ addsP r (f + x.steps) i
theorem addsP_append : ∀ (a b : List Lot) (f i : Nat), addsP (a ++ b) f i = addsP a f i ++ addsP b (f + Lot.stepsL a) i
  | [], b, f, i => by simp [addsP, Lot.stepsL]
  | x :: r, b, f, i => by rw [List.cons_append, addsP, addsP, addsP_append r b, Lot.stepsL, List.append_assoc, Nat.add_assoc]
theorem addsP_out : ∀ (l : List Lot) (f i j : Nat), j ∈ addsP l f i → f ≤ i ∧ i < f + Lot.stepsL l
  | [], f, i, j, h => by simp [addsP] at h
  | x :: r, f, i, j, h => by
    rw [addsP] at h
    rw [Lot.stepsL]
    rcases List.mem_append.mp h with h | h
    · have := adds_out x f i j h; omega
    · have := addsP_out r _ i j h; omega
theorem addsP_nil {l : List Lot} {f i : Nat} (h : ¬ (f ≤ i ∧ i < f + Lot.stepsL l)) : addsP l f i = [] := by
  cases e : addsP l f i with
  | nil => rfl
  | cons j r => exact absurd (addsP_out l f i j (by rw [e]; simp)) h
/-- from the last ones of each to the first ones of the next -/
def cross : List (Lot × Nat) → Nat → List Nat
  | e :: o :: r, i => (if i ∈ lasts e.1 e.2 then firsts o.1 o.2 else []) ++ cross (o :: r) i
  | _, _ => []
theorem cross_snoc : ∀ (l : List (Lot × Nat)) (a b : Lot × Nat) (i : Nat), cross (l ++ [a, b]) i = cross (l ++ [a]) i ++ if i ∈ lasts a.1 a.2 then firsts b.1 b.2 else []
  | [], a, b, i => by simp [cross]
  | [x], a, b, i => by
    show cross [x, a, b] i = cross [x, a] i ++ _
    simp only [cross, List.append_nil]
  | x :: y :: r, a, b, i => by
    have h := cross_snoc (y :: r) a b i
    show cross (x :: y :: (r ++ [a, b])) i = cross (x :: y :: (r ++ [a])) i ++ _
    rw [cross, cross, List.append_assoc]
    exact congrArg _ h
theorem cross_take {es : List (Lot × Nat)} {k : Nat} {a b : Lot × Nat} (ha : es[k]? = some a) (hb : es[k + 1]? = some b) (i : Nat) : cross (es.take (k + 2)) i = cross (es.take (k + 1)) i ++ if i ∈ lasts a.1 a.2 then firsts b.1 b.2 else [] := by
  have e1 : es.take (k + 1) = es.take k ++ [a] := by rw [List.take_add_one, ha]; rfl
  have e2 : es.take (k + 2) = es.take k ++ [a, b] := by
    rw [List.take_add_one, e1, hb]
    simp
  rw [e1, e2, cross_snoc]
theorem cross_take_le : ∀ (es : List (Lot × Nat)) (n i : Nat), (cross (es.take n) i).length ≤ (cross es i).length
  | [], n, i => by simp
  | [x], n, i => by cases n <;> simp [cross]
  | x :: y :: r, 0, i => by simp [cross]
  | x :: y :: r, 1, i => by simp [cross]
  | x :: y :: r, n + 2, i => by
    have h := cross_take_le (y :: r) (n + 1) i
    show (cross (x :: y :: r.take n) i).length ≤ _
    rw [cross, cross, List.length_append, List.length_append]
    exact Nat.add_le_add_left h _
theorem cross_out : ∀ (l : List Lot) (f i j : Nat), j ∈ cross (ne l f) i → f ≤ i ∧ i < f + Lot.stepsL l := by
  have go : ∀ (es : List (Lot × Nat)) (i j : Nat), j ∈ cross es i → ∃ e ∈ es, i ∈ lasts e.1 e.2 := by
    intro es
    induction es with
    | nil => intro i j h; simp [cross] at h
    | cons x r ih =>
      intro i j h
      cases r with
      | nil => simp [cross] at h
      | cons y r =>
        rw [cross] at h
        rcases List.mem_append.mp h with h | h
        · split at h
          · exact ⟨x, by simp, by assumption⟩
          · cases h
        · obtain ⟨e, he, hl⟩ := ih i j h
          exact ⟨e, List.mem_cons_of_mem _ he, hl⟩
  intro l f i j h
  obtain ⟨e, he, hl⟩ := go _ i j h
  have h1 := ne_in l f e he
  have h2 := lasts_in e.1 e.2 i hl
  omega
theorem cross_nil {l : List Lot} {f i : Nat} (h : ¬ (f ≤ i ∧ i < f + Lot.stepsL l)) : cross (ne l f) i = [] := by
  cases e : cross (ne l f) i with
  | nil => rfl
  | cons j r => exact absurd (cross_out l f i j (by rw [e]; simp)) h
theorem addsR_cross : ∀ (l : List Lot) (f i : Nat), addsR l f i = addsP l f i ++ cross (ne l f) i
  | [], f, i => rfl
  | x :: r, f, i => by
    have ih := addsR_cross r (f + x.steps) i
    rw [addsR, addsP, ne]
    by_cases hx : x.steps = 0
    · have hl : lasts x f = [] := lasts_nil hx
      have ha : adds x f i = [] := adds_nil (by omega)
      rw [if_pos hx, ha, hl]
      rw [hx, Nat.add_zero] at ih ⊢
      by_cases c : i < f
      · rw [if_pos c, addsP_nil (by omega), cross_nil (by omega)]
        simp
      · rw [if_neg c, ih]; rfl
    · rw [if_neg hx]
      by_cases c : i < f + x.steps
      · rw [if_pos c, addsP_nil (l := r) (f := f + x.steps) (by omega), List.append_nil]
        congr 1
        have z : cross (ne r (f + x.steps)) i = [] := cross_nil (by omega)
        cases e : ne r (f + x.steps) with
        | nil =>
          have h0 := ne_nil e
          rw [firstsR_nil h0]
          simp [cross]
        | cons o t =>
          rw [e] at z
          rw [cross, z, List.append_nil, firstsR_ne, e]
      · rw [if_neg c, ih, adds_nil (l := x) (by omega), List.nil_append]
        congr 1
        have nl : i ∉ lasts x f := fun h => c (lasts_in x f i h).2
        cases e : ne r (f + x.steps) with
        | nil => simp [cross]
        | cons o t =>
          rw [cross, if_neg nl, List.nil_append]
theorem adds_both (a b : Lot) (f i : Nat) : adds (.both a b) f i = addsP [a, b] f i := by
  simp only [adds, addsP, List.append_nil]
  split
  · rw [adds_nil (l := b) (by omega), List.append_nil]
  · rw [adds_nil (l := a) (by omega), List.nil_append]
theorem addsP_le (l : Lot) (f i : Nat) : (addsP l.parts f i).length ≤ (adds l f i).length := by
  cases l with
  | step => simp [Lot.parts, addsP]
  | row l => rw [adds, addsR_cross, List.length_append]; exact Nat.le_add_right _ _
  | both a b => rw [adds_both]; exact Nat.le_refl _
mutual
theorem firsts_len : ∀ (l : Lot) (f : Nat), (firsts l f).length ≤ l.steps
  | .step, f => by simp [firsts, Lot.steps]
  | .row l, f => by simp only [firsts, Lot.steps]; exact firstsR_len l f
  | .both a b, f => by
    have h1 := firsts_len a f
    have h2 := firsts_len b (f + a.steps)
    simp only [firsts, Lot.steps, List.length_append]
    omega
theorem firstsR_len : ∀ (l : List Lot) (f : Nat), (firstsR l f).length ≤ Lot.stepsL l
  | [], f => by simp [firstsR, Lot.stepsL]
  | x :: r, f => by
    have h1 := firsts_len x f
    have h2 := firstsR_len r f
    simp only [firstsR, Lot.stepsL]
    split <;> omega
end
mutual
theorem lasts_len : ∀ (l : Lot) (f : Nat), (lasts l f).length ≤ l.steps
  | .step, f => by simp [lasts, Lot.steps]
  | .row l, f => by simp only [lasts, Lot.steps]; exact lastsR_len l f
  | .both a b, f => by
    have h1 := lasts_len a f
    have h2 := lasts_len b (f + a.steps)
    simp only [lasts, Lot.steps, List.length_append]
    omega
theorem lastsR_len : ∀ (l : List Lot) (f : Nat), (lastsR l f).length ≤ Lot.stepsL l
  | [], f => by simp [lastsR, Lot.stepsL]
  | x :: r, f => by
    have h1 := lasts_len x f
    have h2 := lastsR_len r (f + x.steps)
    simp only [lastsR, Lot.stepsL]
    split <;> omega
end
mutual
theorem adds_len : ∀ (l : Lot) (f i S : Nat), l.steps ≤ S → (adds l f i).length ≤ l.depth * S
  | .step, f, i, S, _ => by simp [adds]
  | .row l, f, i, S, h => by
    have q := addsR_len l f i S h
    simp only [adds, Lot.depth]
    rw [Nat.add_comm]
    exact q
  | .both a b, f, i, S, h => by
    simp only [Lot.steps] at h
    have h1 := adds_len a f i S (by omega)
    have h2 := adds_len b (f + a.steps) i S (by omega)
    simp only [adds, Lot.depth]
    split
    · exact Nat.le_trans h1 (Nat.mul_le_mul_right _ (by omega))
    · exact Nat.le_trans h2 (Nat.mul_le_mul_right _ (by omega))
theorem addsR_len : ∀ (l : List Lot) (f i S : Nat), Lot.stepsL l ≤ S → (addsR l f i).length ≤ (Lot.depthL l + 1) * S
  | [], f, i, S, _ => by simp [addsR]
  | x :: r, f, i, S, h => by
    simp only [Lot.stepsL] at h
    have h1 := adds_len x f i S (by omega)
    have h2 := addsR_len r (f + x.steps) i S (by omega)
    have h3 := firstsR_len r (f + x.steps)
    simp only [addsR, Lot.depthL]
    split
    · rw [List.length_append]
      have h4 : x.depth * S ≤ max x.depth (Lot.depthL r) * S := Nat.mul_le_mul_right _ (by omega)
      rw [Nat.add_mul, Nat.one_mul]
      split
      · omega
      · simp only [List.length_nil]; omega
    · exact Nat.le_trans h2 (Nat.mul_le_mul_right _ (by omega))
end
end HK
set_option Elab.async false
set_option linter.all false
set_option maxRecDepth 100000
set_option maxHeartbeats 1000000
namespace HK
theorem hei_max (l : Lot) {i k : Nat} (hi : i < l.steps) (hk : k ∈ 0 :: (adds l 0 i).map (heiF l 0 0)) (hle : ∀ y ∈ 0 :: (adds l 0 i).map (heiF l 0 0), y ≤ k) : 1 + k = heiF l 0 0 i := by
  have h1 := hei_in l 0 0 i (Nat.zero_le _) (by omega)
  have up : 1 + k ≤ heiF l 0 0 i := by
    rcases List.mem_cons.mp hk with e | hk
    · omega
    · obtain ⟨j, hj, rfl⟩ := List.mem_map.mp hk
      have := (adds_in l 0 i j (Nat.zero_le _) (by omega) hj).2.2.2 0
      omega
  rcases hei_from l 0 0 i (Nat.zero_le _) (by omega) with h | ⟨j, hj, e⟩
  · have := hei_last l 0 0 i h
    omega
  · have := hle _ (List.mem_cons_of_mem _ (List.mem_map.mpr ⟨j, hj, rfl⟩))
    omega
/-- what is found of the levels, once the edges of the steps ahead of i are looked at, and of those of i the first m -/
structure LevOk (l : Lot) (fs : List Nat) (i m : Nat) : Prop where
  len : fs.length = l.steps
  low : ∀ j n, fs[j]? = some n → 1 ≤ n ∧ n ≤ levF l 0 0 j
  done : ∀ i' < i, ∀ j ∈ adds l 0 i', ∀ n, fs[j]? = some n → levF l 0 0 i' + 1 ≤ n
  part : ∀ j ∈ (adds l 0 i).take m, ∀ n, fs[j]? = some n → levF l 0 0 i + 1 ≤ n
theorem LevOk.now {l : Lot} {fs : List Nat} {i m n : Nat} (h : LevOk l fs i m) (e : fs[i]? = some n) : n = levF l 0 0 i := by
  have hi : i < l.steps := by rw [← h.len]; exact (List.getElem?_eq_some_iff.mp e).1
  have h1 := h.low i n e
  rcases lev_from l 0 0 i (Nat.zero_le _) (by omega) with q | ⟨i', _, _, q3, q4⟩
  · have := lev_first l 0 0 i q
    omega
  · have h2 := (adds_in l 0 i' i (Nat.zero_le _) (by omega) q3).1
    have h3 := h.done i' h2 i q3 n e
    omega
theorem LevOk.set {l : Lot} {fs : List Nat} {i m a b one : Nat} (h : LevOk l fs i m) (ho : (adds l 0 i)[m]? = some one) (ha : fs[one]? = some a) (hb : fs[i]? = some b) : LevOk l (fs.set one (max a (b + 1))) i (m + 1) := by
  have hi : i < l.steps := by rw [← h.len]; exact (List.getElem?_eq_some_iff.mp hb).1
  have eb := h.now hb
  have hm := List.mem_of_getElem? ho
  have q := (adds_in l 0 i one (Nat.zero_le _) (by omega) hm)
  have q3 := q.2.2.1 0
  have hol : one < fs.length := (List.getElem?_eq_some_iff.mp ha).1
  have ge : ∀ (j n : Nat), (fs.set one (max a (b + 1)))[j]? = some n → ∃ n' : Nat, fs[j]? = some n' ∧ n' ≤ n := by
    intro j n e
    by_cases c : j = one
    · subst c
      rw [List.getElem?_set_self hol] at e
      obtain rfl := Option.some.inj e
      exact ⟨a, ha, by omega⟩
    · rw [List.getElem?_set_ne (Ne.symm c)] at e
      exact ⟨n, e, Nat.le_refl _⟩
  have h1 := h.low one a ha
  refine ⟨by rw [List.length_set]; exact h.len, fun j n e => ?_, fun i' hi' j hj n e => ?_, fun j hj n e => ?_⟩
  · by_cases c : j = one
    · subst c
      rw [List.getElem?_set_self hol] at e
      obtain rfl := Option.some.inj e
      omega
    · rw [List.getElem?_set_ne (Ne.symm c)] at e
      exact h.low j n e
  · obtain ⟨n', e', le⟩ := ge j n e
    have := h.done i' hi' j hj n' e'
    omega
  · rw [List.take_add_one, ho] at hj
    rcases List.mem_append.mp hj with hj | hj
    · obtain ⟨n', e', le⟩ := ge j n e
      have := h.part j hj n' e'
      omega
    · have c : j = one := by simpa using hj
      subst c
      rw [List.getElem?_set_self hol] at e
      obtain rfl := Option.some.inj e
      omega
theorem LevOk.next {l : Lot} {fs : List Nat} {i : Nat} (h : LevOk l fs i (adds l 0 i).length) : LevOk l fs (i + 1) 0 := by
  refine ⟨h.len, h.low, fun i' hi' j hj n e => ?_, fun j hj => by simp at hj⟩
  by_cases c : i' = i
  · subst c
    exact h.part j (by rw [List.take_length]; exact hj) n e
  · exact h.done i' (by omega) j hj n e
theorem LevOk.start (l : Lot) : LevOk l (List.replicate l.steps 1) 0 0 := by
  refine ⟨by simp, fun j n e => ?_, fun i' hi' => by omega, fun j hj => by simp at hj⟩
  have hj := (List.getElem?_eq_some_iff.mp e).1
  rw [List.length_replicate] at hj
  rw [List.getElem?_replicate, if_pos hj] at e
  obtain rfl := Option.some.inj e
  have := lev_in l 0 0 j (Nat.zero_le _) (by omega)
  omega
theorem LevOk.fin {l : Lot} {fs : List Nat} (h : LevOk l fs l.steps 0) : fs = (List.range l.steps).map fun j => levF l 0 0 j := by
  apply List.ext_getElem (by simp [h.len])
  intro i h1 h2
  have hi : i < l.steps := by rw [← h.len]; exact h1
  have q : LevOk l fs i 0 := ⟨h.len, h.low, fun i' hi' => h.done i' (by omega), fun j hj => by simp at hj⟩
  rw [q.now (List.getElem?_eq_getElem h1), List.getElem_map, List.getElem_range]
end HK
set_option Elab.async false
set_option linter.all false
set_option maxRecDepth 100000
set_option maxHeartbeats 1000000
namespace HK
mutual
/-- all that come ahead of step j -/
def preds : Lot → Nat → Nat → List Nat
  | .step, _, _ => []
  | .row l, f, j => predsR l f f j
  | .both a b, f, j => if j < f + a.steps then preds a f j else preds b (f + a.steps) j
def predsR : List Lot → Nat → Nat → Nat → List Nat
  | [], _, _, _ => []
  | x :: r, f0, f, j => if j < f + x.steps then List.range' f0 (f - f0) ++ preds x f j else predsR r f0 (f + x.steps) j
end
mutual
theorem preds_len : ∀ (l : Lot) (f j : Nat), (preds l f j).length ≤ l.steps
  | .step, f, j => by simp [preds]
  | .row l, f, j => by
    have h := predsR_len l f f j (Nat.le_refl _)
    simp only [preds, Lot.steps]
    omega
  | .both a b, f, j => by
    have h1 := preds_len a f j
    have h2 := preds_len b (f + a.steps) j
    simp only [preds, Lot.steps]
    split <;> omega
theorem predsR_len : ∀ (l : List Lot) (f0 f j : Nat), f0 ≤ f → (predsR l f0 f j).length ≤ (f - f0) + Lot.stepsL l
  | [], f0, f, j, _ => by simp [predsR]
  | x :: r, f0, f, j, h => by
    have h1 := preds_len x f j
    have h2 := predsR_len r f0 (f + x.steps) j (by omega)
    simp only [predsR, Lot.stepsL]
    split
    · rw [List.length_append, List.length_range']
      omega
    · omega
end
theorem predsR_at : ∀ (l : List Lot) (f0 f i j : Nat) (x : Lot), l[i]? = some x → f + Lot.stepsL (l.take i) ≤ j → j < f + Lot.stepsL (l.take i) + x.steps →
    predsR l f0 f j = List.range' f0 (f + Lot.stepsL (l.take i) - f0) ++ preds x (f + Lot.stepsL (l.take i)) j
  | [], f0, f, i, j, x, h, _, _ => by simp at h
  | y :: r, f0, f, 0, j, x, h, h1, h2 => by
    obtain rfl : y = x := Option.some.inj h
    simp only [List.take_zero, Lot.stepsL, Nat.add_zero] at *
    rw [predsR, if_pos h2]
  | y :: r, f0, f, i + 1, j, x, h, h1, h2 => by
    simp only [List.take_succ_cons, Lot.stepsL] at h1 h2 ⊢
    have ih := predsR_at r f0 (f + y.steps) i j x (by simpa using h) (by omega) (by omega)
    rw [predsR, if_neg (by omega), ih, Nat.add_assoc]
theorem preds_part {l : Lot} {f i j : Nat} {x : Lot} (ns : l.word ≠ "step") (h : l.parts[i]? = some x) (h1 : f + Lot.stepsL (l.parts.take i) ≤ j) (h2 : j < f + Lot.stepsL (l.parts.take i) + x.steps) :
    preds l f j = (if l.word = "row" then List.range' f (Lot.stepsL (l.parts.take i)) else []) ++ preds x (f + Lot.stepsL (l.parts.take i)) j := by
  cases l with
  | step => exact absurd rfl ns
  | row l =>
    rw [if_pos (show (Lot.row l).word = "row" from rfl), preds, predsR_at l f f i j x h h1 h2]
    have e : f + Lot.stepsL (l.take i) - f = Lot.stepsL (l.take i) := by omega
    rw [e]
    rfl
  | both a b =>
    rw [if_neg (show ¬ (Lot.both a b).word = "row" from word_br), List.nil_append, preds]
    match i, h with
    | 0, h =>
      obtain rfl : a = x := Option.some.inj h
      simp only [List.take_zero, Lot.stepsL, Nat.add_zero] at *
      rw [if_pos h2]
    | 1, h =>
      obtain rfl : b = x := Option.some.inj h
      have e : Lot.stepsL ((Lot.both a b).parts.take 1) = a.steps := by simp [Lot.parts, Lot.stepsL]
      rw [e] at h1 h2 ⊢
      rw [if_neg (by omega)]
theorem range'_snoc (f a b : Nat) : List.range' f a ++ List.range' (f + a) b = List.range' f (a + b) := by
  have h := @List.range'_append f a b 1
  simpa using h
end HK
set_option Elab.async false
set_option linter.all false
set_option maxRecDepth 100000
set_option maxHeartbeats 1000000
namespace HK
theorem mem_rng {f n i : Nat} : i ∈ List.range' f n ↔ f ≤ i ∧ i < f + n := by
  rw [List.mem_range'_1]
mutual
/-- what comes ahead has a lower level; a step of no least level has one right ahead of it -/
theorem preds_lev : ∀ (l : Lot) (f b j : Nat), f ≤ j → j < f + l.steps → (∀ i ∈ preds l f j, f ≤ i ∧ i < j ∧ levF l f b i + 1 ≤ levF l f b j) ∧ (levF l f b j = b + 1 ∨ ∃ i ∈ preds l f j, levF l f b j = levF l f b i + 1)
  | .step, f, b, j, h1, h2 => ⟨fun i hi => by simp [preds] at hi, .inl rfl⟩
  | .row l, f, b, j, h1, h2 => by
    have h := predsR_lev l f f b b (fun i => levR l f b i) j (fun i _ _ => by omega) (.inl rfl) (fun i _ _ => rfl) (Nat.le_refl _) h1 h2
    exact h
  | .both x y, f, b, j, h1, h2 => by
    simp only [Lot.steps] at h2
    by_cases c : j < f + x.steps
    · obtain ⟨p, q⟩ := preds_lev x f b j h1 c
      simp only [preds, levF, if_pos c]
      refine ⟨fun i hi => ?_, ?_⟩
      · obtain ⟨p1, p2, p3⟩ := p i hi
        rw [if_pos (by omega)]
        exact ⟨p1, p2, p3⟩
      · rcases q with q | ⟨i, hi, q⟩
        · exact .inl q
        · obtain ⟨p1, p2, p3⟩ := p i hi
          exact .inr ⟨i, hi, by rw [if_pos (by omega)]; exact q⟩
    · obtain ⟨p, q⟩ := preds_lev y (f + x.steps) b j (by omega) (by omega)
      simp only [preds, levF, if_neg c]
      refine ⟨fun i hi => ?_, ?_⟩
      · obtain ⟨p1, p2, p3⟩ := p i hi
        rw [if_neg (by omega)]
        exact ⟨by omega, p2, p3⟩
      · rcases q with q | ⟨i, hi, q⟩
        · exact .inl q
        · obtain ⟨p1, p2, p3⟩ := p i hi
          exact .inr ⟨i, hi, by rw [if_neg (by omega)]; exact q⟩
theorem predsR_lev : ∀ (l : List Lot) (f0 f b0 b : Nat) (L : Nat → Nat) (j : Nat), (∀ i, f0 ≤ i → i < f → L i ≤ b) → (b = b0 ∨ ∃ i, f0 ≤ i ∧ i < f ∧ L i = b) → (∀ i, f ≤ i → i < f + Lot.stepsL l → L i = levR l f b i) → f0 ≤ f → f ≤ j → j < f + Lot.stepsL l →
    (∀ i ∈ predsR l f0 f j, f0 ≤ i ∧ i < j ∧ L i + 1 ≤ L j) ∧ (L j = b0 + 1 ∨ ∃ i ∈ predsR l f0 f j, L j = L i + 1)
  | [], f0, f, b0, b, L, j, _, _, _, _, h1, h2 => by simp [Lot.stepsL] at h2; omega
  | x :: r, f0, f, b0, b, L, j, hb, hr, hL, h0, h1, h2 => by
    simp only [Lot.stepsL] at h2 hL
    have hx : ∀ i, f ≤ i → i < f + x.steps → L i = levF x f b i := fun i i1 i2 => by
      rw [hL i i1 (by omega), levR, if_pos i2]
    by_cases c : j < f + x.steps
    · obtain ⟨p, q⟩ := preds_lev x f b j h1 c
      have lj := lev_in x f b j h1 c
      rw [predsR, if_pos c]
      refine ⟨fun i hi => ?_, ?_⟩
      · rcases List.mem_append.mp hi with hi | hi
        · obtain ⟨i1, i2⟩ := mem_rng.mp hi
          have := hb i i1 (by omega)
          rw [hx j h1 c]
          omega
        · obtain ⟨p1, p2, p3⟩ := p i hi
          rw [hx j h1 c, hx i p1 (by omega)]
          omega
      · rcases q with q | ⟨i, hi, q⟩
        · rcases hr with e | ⟨i, i1, i2, e⟩
          · rw [← e, ← q]
            exact .inl (hx j h1 c)
          · exact .inr ⟨i, List.mem_append_left _ (mem_rng.mpr ⟨i1, by omega⟩), by rw [hx j h1 c, q, e]⟩
        · obtain ⟨p1, p2, p3⟩ := p i hi
          exact .inr ⟨i, List.mem_append_right _ hi, by rw [hx j h1 c, hx i p1 (by omega)]; exact q⟩
    · rw [predsR, if_neg c]
      refine predsR_lev r f0 (f + x.steps) b0 (b + x.span) L j (fun i i1 i2 => ?_) ?_ (fun i i1 i2 => ?_) (by omega) (by omega) (by omega)
      · by_cases d : i < f
        · have := hb i i1 d; omega
        · rw [hx i (by omega) i2]
          exact (lev_in x f b i (by omega) i2).2
      · by_cases z : x.steps = 0
        · have := (span_zero x).mp z
          rcases hr with e | ⟨i, i1, i2, e⟩
          · exact .inl (by omega)
          · exact .inr ⟨i, i1, by omega, by omega⟩
        · obtain ⟨i, hi, e⟩ := lev_last x f b (by omega)
          have q := lasts_in x f i hi
          exact .inr ⟨i, by omega, q.2, by rw [hx i q.1 q.2]; exact e⟩
      · rw [hL i (by omega) (by omega), levR, if_neg (by omega)]
end
theorem lev_max (l : Lot) {i k : Nat} (hi : i < l.steps) (hk : k ∈ 0 :: (preds l 0 i).map (levF l 0 0)) (hle : ∀ y ∈ 0 :: (preds l 0 i).map (levF l 0 0), y ≤ k) : 1 + k = levF l 0 0 i := by
  obtain ⟨p, q⟩ := preds_lev l 0 0 i (Nat.zero_le _) (by omega)
  have h1 := lev_in l 0 0 i (Nat.zero_le _) (by omega)
  have up : 1 + k ≤ levF l 0 0 i := by
    rcases List.mem_cons.mp hk with e | hk
    · omega
    · obtain ⟨j, hj, rfl⟩ := List.mem_map.mp hk
      have := (p j hj).2.2
      omega
  rcases q with h | ⟨j, hj, e⟩
  · omega
  · have := hle _ (List.mem_cons_of_mem _ (List.mem_map.mpr ⟨j, hj, rfl⟩))
    omega
theorem predsR_all : ∀ (l : List Lot) (f0 f i j : Nat), f0 ≤ i → i < f → f ≤ j → j < f + Lot.stepsL l → i ∈ predsR l f0 f j
  | [], f0, f, i, j, _, _, h1, h2 => by simp [Lot.stepsL] at h2; omega
  | x :: r, f0, f, i, j, i1, i2, h1, h2 => by
    simp only [Lot.stepsL] at h2
    rw [predsR]
    split
    · exact List.mem_append_left _ (mem_rng.mpr ⟨i1, by omega⟩)
    · exact predsR_all r f0 (f + x.steps) i j i1 (by omega) (by omega) (by omega)
theorem preds_rng {l : Lot} {f j i : Nat} (h1 : f ≤ j) (h2 : j < f + l.steps) (h : i ∈ preds l f j) : f ≤ i ∧ i < j := by
  have q := (preds_lev l f 0 j h1 h2).1 i h
  exact ⟨q.1, q.2.1⟩
mutual
theorem preds_hei : ∀ (l : Lot) (f t i : Nat), f ≤ i → i < f + l.steps → (∀ j, f ≤ j → j < f + l.steps → i ∈ preds l f j → heiF l f t j + 1 ≤ heiF l f t i) ∧ (heiF l f t i = t + 1 ∨ ∃ j, f ≤ j ∧ j < f + l.steps ∧ i ∈ preds l f j ∧ heiF l f t i = heiF l f t j + 1)
  | .step, f, t, i, h1, h2 => ⟨fun j _ _ hi => by simp [preds] at hi, .inl rfl⟩
  | .row l, f, t, i, h1, h2 => predsR_hei l f f t i (Nat.le_refl _) h1 h2
  | .both x y, f, t, i, h1, h2 => by
    simp only [Lot.steps] at h2 ⊢
    by_cases c : i < f + x.steps
    · obtain ⟨p, q⟩ := preds_hei x f t i h1 c
      simp only [heiF, if_pos c, preds]
      refine ⟨fun j j1 j2 hj => ?_, ?_⟩
      · by_cases d : j < f + x.steps
        · rw [if_pos d] at hj ⊢
          exact p j j1 d hj
        · rw [if_neg d] at hj
          have := preds_rng (l := y) (by omega) (by omega) hj
          omega
      · rcases q with q | ⟨j, j1, j2, j3, j4⟩
        · exact .inl q
        · exact .inr ⟨j, j1, by omega, by rw [if_pos j2]; exact j3, by rw [if_pos j2]; exact j4⟩
    · obtain ⟨p, q⟩ := preds_hei y (f + x.steps) t i (by omega) (by omega)
      simp only [heiF, if_neg c, preds]
      refine ⟨fun j j1 j2 hj => ?_, ?_⟩
      · by_cases d : j < f + x.steps
        · rw [if_pos d] at hj
          have := preds_rng (l := x) j1 d hj
          omega
        · rw [if_neg d] at hj ⊢
          exact p j (by omega) (by omega) hj
      · rcases q with q | ⟨j, j1, j2, j3, j4⟩
        · exact .inl q
        · exact .inr ⟨j, by omega, by omega, by rw [if_neg (by omega)]; exact j3, by rw [if_neg (by omega)]; exact j4⟩
theorem predsR_hei : ∀ (l : List Lot) (f0 f t i : Nat), f0 ≤ f → f ≤ i → i < f + Lot.stepsL l → (∀ j, f ≤ j → j < f + Lot.stepsL l → i ∈ predsR l f0 f j → heiR l f t j + 1 ≤ heiR l f t i) ∧ (heiR l f t i = t + 1 ∨ ∃ j, f ≤ j ∧ j < f + Lot.stepsL l ∧ i ∈ predsR l f0 f j ∧ heiR l f t i = heiR l f t j + 1)
  | [], f0, f, t, i, _, h1, h2 => by simp [Lot.stepsL] at h2; omega
  | x :: r, f0, f, t, i, h0, h1, h2 => by
    simp only [Lot.stepsL] at h2 ⊢
    by_cases c : i < f + x.steps
    · obtain ⟨p, q⟩ := preds_hei x f (t + Lot.spanL r) i h1 c
      have hi := hei_in x f (t + Lot.spanL r) i h1 c
      simp only [heiR, predsR, if_pos c]
      refine ⟨fun j j1 j2 hj => ?_, ?_⟩
      · by_cases d : j < f + x.steps
        · rw [if_pos d] at hj ⊢
          rcases List.mem_append.mp hj with hj | hj
          · have := mem_rng.mp hj
            omega
          · exact p j j1 d hj
        · rw [if_neg d] at hj ⊢
          have := heiR_in r (f + x.steps) t j (by omega) (by omega)
          omega
      · rcases q with q | ⟨j, j1, j2, j3, j4⟩
        · by_cases z : Lot.stepsL r = 0
          · have := (span_zeroL r).mp z
            exact .inl (by omega)
          · obtain ⟨j, hj, e⟩ := heiR_first r (f + x.steps) t (by omega)
            have u := firstsR_in r _ j hj
            refine .inr ⟨j, by omega, by omega, ?_, ?_⟩
            · rw [if_neg (by omega)]
              exact predsR_all r f0 (f + x.steps) i j (by omega) c (by omega) (by omega)
            · rw [if_neg (by omega), e]
              exact q
        · exact .inr ⟨j, j1, by omega, by rw [if_pos j2]; exact List.mem_append_right _ j3, by rw [if_pos j2]; exact j4⟩
    · obtain ⟨p, q⟩ := predsR_hei r f0 (f + x.steps) t i (by omega) (by omega) (by omega)
      simp only [heiR, predsR, if_neg c]
      refine ⟨fun j j1 j2 hj => ?_, ?_⟩
      · by_cases d : j < f + x.steps
        · rw [if_pos d] at hj
          rcases List.mem_append.mp hj with hj | hj
          · have := mem_rng.mp hj
            omega
          · have := preds_rng (l := x) j1 d hj
            omega
        · rw [if_neg d] at hj ⊢
          exact p j (by omega) (by omega) hj
      · rcases q with q | ⟨j, j1, j2, j3, j4⟩
        · exact .inl q
        · exact .inr ⟨j, by omega, by omega, by rw [if_neg (by omega)]; exact j3, by rw [if_neg (by omega)]; exact j4⟩
end
/-- 1 + the greatest height of those that i is ahead of is i's height; all of them are behind i -/
theorem hei_max2 (l : Lot) {i k : Nat} {S : List Nat} (hi : i < l.steps) (hS : ∀ j, j ∈ S ↔ j < l.steps ∧ i ∈ preds l 0 j) (hk : k ∈ 0 :: S.map (heiF l 0 0)) (hle : ∀ y ∈ 0 :: S.map (heiF l 0 0), y ≤ k) : 1 + k = heiF l 0 0 i := by
  obtain ⟨p, q⟩ := preds_hei l 0 0 i (Nat.zero_le _) (by omega)
  have h1 := hei_in l 0 0 i (Nat.zero_le _) (by omega)
  have up : 1 + k ≤ heiF l 0 0 i := by
    rcases List.mem_cons.mp hk with e | hk
    · omega
    · obtain ⟨j, hj, rfl⟩ := List.mem_map.mp hk
      obtain ⟨j1, j2⟩ := (hS j).mp hj
      have := p j (Nat.zero_le _) (by omega) j2
      omega
  rcases q with h | ⟨j, j1, j2, j3, e⟩
  · omega
  · have := hle _ (List.mem_cons_of_mem _ (List.mem_map.mpr ⟨j, (hS j).mpr ⟨by omega, j3⟩, rfl⟩))
    omega
end HK
set_option Elab.async false
set_option linter.all false
set_option maxRecDepth 100000
set_option maxHeartbeats 1000000
namespace HK
/-- lists upwards in which none is ahead of another -/
def Anti (P : Nat → List Nat) (s : List Nat) : Prop := s.Pairwise fun a b => a < b ∧ a ∉ P b
theorem Anti.at {P : Nat → List Nat} : ∀ {s : List Nat} {i j : Nat}, Anti P s → i ∈ s → j ∈ s → i < j → i ∉ P j
  | x :: r, i, j, h, hi, hj, lt => by
    obtain ⟨h1, h2⟩ := List.pairwise_cons.mp h
    rcases List.mem_cons.mp hi with e | hi
    · rcases List.mem_cons.mp hj with e2 | hj
      · omega
      · rw [e]; exact (h1 j hj).2
    · rcases List.mem_cons.mp hj with e2 | hj
      · have := (h1 i hi).1
        omega
      · exact Anti.at h2 hi hj lt
theorem Anti.imp {P P' : Nat → List Nat} {s : List Nat} (h : Anti P s) (k : ∀ a ∈ s, ∀ b ∈ s, a ∉ P b → a ∉ P' b) : Anti P' s :=
  List.Pairwise.imp_of_mem (fun {a b} ha hb q => ⟨q.1, k a ha b hb q.2⟩) h
mutual
theorem anti_le : ∀ (l : Lot) (f : Nat) (s : List Nat), Anti (preds l f) s → (∀ i ∈ s, f ≤ i ∧ i < f + l.steps) → s.length ≤ l.width
  | .step, f, s, h, hr => by
    cases s with
    | nil => simp
    | cons x r =>
      cases r with
      | nil => simp [Lot.width]
      | cons y r =>
        have h1 := hr x (by simp)
        have h2 := hr y (by simp)
        have h3 := ((List.pairwise_cons.mp h).1 y (by simp)).1
        simp only [Lot.steps] at h1 h2
        omega
  | .row l, f, s, h, hr => anti_leR l f f s (Nat.le_refl _) h hr
  | .both x y, f, s, h, hr => by
    simp only [Lot.steps, Lot.width] at *
    have hs := (List.filter_append_perm (fun i => decide (i < f + x.steps)) s).length_eq
    rw [List.length_append] at hs
    have h1 := anti_le x f (s.filter fun i => decide (i < f + x.steps)) (Anti.imp (P := preds (.both x y) f) (h.filter _) fun a ha b hb q => ?_) (fun i hi => ?_)
    have h2 := anti_le y (f + x.steps) (s.filter fun i => !decide (i < f + x.steps)) (Anti.imp (P := preds (.both x y) f) (h.filter _) fun a ha b hb q => ?_) (fun i hi => ?_)
    · omega
    · have hb := (List.mem_filter.mp hb).2
      have hb : ¬ b < f + x.steps := by simpa using hb
      simp only [preds, if_neg hb] at q
      exact q
    · obtain ⟨hi1, hi2⟩ := List.mem_filter.mp hi
      have := hr i hi1
      have hi2 : ¬ i < f + x.steps := by simpa using hi2
      omega
    · have hb := (List.mem_filter.mp hb).2
      have hb : b < f + x.steps := by simpa using hb
      simp only [preds, if_pos hb] at q
      exact q
    · obtain ⟨hi1, hi2⟩ := List.mem_filter.mp hi
      have := hr i hi1
      have hi2 : i < f + x.steps := by simpa using hi2
      omega
theorem anti_leR : ∀ (l : List Lot) (f0 f : Nat) (s : List Nat), f0 ≤ f → Anti (predsR l f0 f) s → (∀ i ∈ s, f ≤ i ∧ i < f + Lot.stepsL l) → s.length ≤ Lot.widthL l
  | [], f0, f, s, _, h, hr => by
    cases s with
    | nil => simp
    | cons x r => have := hr x (by simp); simp [Lot.stepsL] at this; omega
  | x :: r, f0, f, s, h0, h, hr => by
    simp only [Lot.stepsL, Lot.widthL] at *
    by_cases c : ∀ i ∈ s, i < f + x.steps
    · have q := anti_le x f s (h.imp fun a ha b hb q => ?_) fun i hi => ⟨(hr i hi).1, c i hi⟩
      · omega
      · rw [predsR, if_pos (c b hb)] at q
        exact fun z => q (List.mem_append_right _ z)
    · have c' : ∃ j ∈ s, f + x.steps ≤ j := by
        refine Classical.byContradiction fun z => c fun i hi => ?_
        refine Nat.lt_of_not_le fun le => z ⟨i, hi, le⟩
      obtain ⟨j, hj, lj⟩ := c'
      have all : ∀ i ∈ s, f + x.steps ≤ i := fun i hi => by
        refine Nat.le_of_not_lt fun lt => ?_
        have n := h.at hi hj (by omega)
        rw [predsR, if_neg (by omega)] at n
        have u := hr i hi
        have u2 := hr j hj
        exact n (predsR_all r f0 (f + x.steps) i j (by omega) lt lj (by omega))
      have q := anti_leR r f0 (f + x.steps) s (by omega) (h.imp fun a ha b hb q => ?_) fun i hi => ⟨all i hi, by have := hr i hi; omega⟩
      · omega
      · rw [predsR, if_neg (by have := all b hb; omega)] at q
        exact q
end
mutual
theorem anti_ex : ∀ (l : Lot) (f : Nat), ∃ s, Anti (preds l f) s ∧ (∀ i ∈ s, f ≤ i ∧ i < f + l.steps) ∧ s.length = l.width
  | .step, f => ⟨[f], by simp [Anti], by simp [Lot.steps], rfl⟩
  | .row l, f => anti_exR l f f (Nat.le_refl _)
  | .both x y, f => by
    obtain ⟨s, h1, h2, h3⟩ := anti_ex x f
    obtain ⟨t, k1, k2, k3⟩ := anti_ex y (f + x.steps)
    refine ⟨s ++ t, List.pairwise_append.mpr ⟨h1.imp fun a ha b hb q => ?_, k1.imp fun a ha b hb q => ?_, fun a ha b hb => ?_⟩, fun i hi => ?_, by rw [List.length_append, h3, k3]; rfl⟩
    · simp only [preds, if_pos (h2 b hb).2]
      exact q
    · have := k2 b hb
      simp only [preds, if_neg (show ¬ b < f + x.steps by omega)]
      exact q
    · have u := h2 a ha
      have v := k2 b hb
      refine ⟨by omega, ?_⟩
      simp only [preds, if_neg (show ¬ b < f + x.steps by omega)]
      intro z
      have := preds_rng (l := y) v.1 v.2 z
      omega
    · simp only [Lot.steps]
      rcases List.mem_append.mp hi with hi | hi
      · have := h2 i hi; omega
      · have := k2 i hi; omega
theorem anti_exR : ∀ (l : List Lot) (f0 f : Nat), f0 ≤ f → ∃ s, Anti (predsR l f0 f) s ∧ (∀ i ∈ s, f ≤ i ∧ i < f + Lot.stepsL l) ∧ s.length = Lot.widthL l
  | [], f0, f, _ => ⟨[], by simp [Anti], by simp, rfl⟩
  | x :: r, f0, f, h0 => by
    simp only [Lot.stepsL, Lot.widthL]
    by_cases c : Lot.widthL r ≤ x.width
    · obtain ⟨s, h1, h2, h3⟩ := anti_ex x f
      refine ⟨s, h1.imp fun a ha b hb q => ?_, fun i hi => ?_, by omega⟩
      · rw [predsR, if_pos (h2 b hb).2]
        intro z
        rcases List.mem_append.mp z with z | z
        · have u := mem_rng.mp z
          have := h2 a ha
          omega
        · exact q z
      · have := h2 i hi
        omega
    · obtain ⟨s, h1, h2, h3⟩ := anti_exR r f0 (f + x.steps) (by omega)
      refine ⟨s, h1.imp fun a ha b hb q => ?_, fun i hi => ?_, by omega⟩
      · have := h2 b hb
        rw [predsR, if_neg (by omega)]
        exact q
      · have := h2 i hi
        omega
end
/-- those that _law_widest makes, of the steps below n -/
def setsF (P : Nat → List Nat) : Nat → List (List Nat)
  | 0 => [[]]
  | n + 1 => setsF P n ++ ((setsF P n).filter fun s => s.all fun i => !decide (i ∈ P n)).map fun s => s ++ [n]
theorem setsF_in (P : Nat → List Nat) : ∀ (n : Nat) (s : List Nat), s ∈ setsF P n → Anti P s ∧ ∀ i ∈ s, i < n
  | 0, s, h => by
    have e : s = [] := by simpa [setsF] using h
    subst e
    exact ⟨List.Pairwise.nil, by simp⟩
  | n + 1, s, h => by
    rw [setsF] at h
    rcases List.mem_append.mp h with h | h
    · obtain ⟨h1, h2⟩ := setsF_in P n s h
      exact ⟨h1, fun i hi => by have := h2 i hi; omega⟩
    · obtain ⟨t, ht, rfl⟩ := List.mem_map.mp h
      obtain ⟨ht1, ht2⟩ := List.mem_filter.mp ht
      obtain ⟨h1, h2⟩ := setsF_in P n t ht1
      have h3 := List.all_eq_true.mp ht2
      refine ⟨List.pairwise_append.mpr ⟨h1, List.pairwise_singleton _ _, fun a ha b hb => ?_⟩, fun i hi => ?_⟩
      · rw [List.mem_singleton.mp hb]
        exact ⟨h2 a ha, by simpa using h3 a ha⟩
      · rcases List.mem_append.mp hi with hi | hi
        · have := h2 i hi; omega
        · rw [List.mem_singleton.mp hi]; omega
theorem setsF_all (P : Nat → List Nat) : ∀ (n : Nat) (s : List Nat), Anti P s → (∀ i ∈ s, i < n) → s ∈ setsF P n
  | 0, s, _, h => by
    cases s with
    | nil => simp [setsF]
    | cons x r => have := h x (by simp); omega
  | n + 1, s, h, hr => by
    rw [setsF]
    rcases List.eq_nil_or_concat s with e | ⟨t, x, e⟩
    · exact List.mem_append_left _ (setsF_all P n s h (by rw [e]; simp))
    · rw [List.concat_eq_append] at e
      subst e
      obtain ⟨h1, _, h3⟩ := List.pairwise_append.mp h
      have lt : ∀ i ∈ t, i < x := fun i hi => (h3 i hi x (by simp)).1
      have hx := hr x (by simp)
      by_cases c : x = n
      · subst c
        refine List.mem_append_right _ (List.mem_map.mpr ⟨t, List.mem_filter.mpr ⟨setsF_all P x t h1 lt, List.all_eq_true.mpr fun i hi => ?_⟩, rfl⟩)
        have := (h3 i hi x (by simp)).2
        simpa using this
      · refine List.mem_append_left _ (setsF_all P n _ h fun i hi => ?_)
        rcases List.mem_append.mp hi with hi | hi
        · have := lt i hi; omega
        · rw [List.mem_singleton.mp hi]; omega
theorem setsF_len (P : Nat → List Nat) : ∀ n, (setsF P n).length ≤ 2 ^ n
  | 0 => by simp [setsF]
  | n + 1 => by
    have h := setsF_len P n
    have h2 := List.length_filter_le (fun s : List Nat => s.all fun i => !decide (i ∈ P n)) (setsF P n)
    rw [setsF, List.length_append, List.length_map, Nat.pow_succ]
    omega
theorem setsF_max (l : Lot) {k : Nat} (hk : k ∈ (setsF (preds l 0) l.steps).map List.length) (hle : ∀ y ∈ (setsF (preds l 0) l.steps).map List.length, y ≤ k) : k = l.width := by
  obtain ⟨s, hs, rfl⟩ := List.mem_map.mp hk
  obtain ⟨h1, h2⟩ := setsF_in _ _ s hs
  have up := anti_le l 0 s h1 fun i hi => ⟨Nat.zero_le _, by have := h2 i hi; omega⟩
  obtain ⟨t, k1, k2, k3⟩ := anti_ex l 0
  have lo := hle t.length (List.mem_map.mpr ⟨t, setsF_all _ _ t k1 fun i hi => by have := k2 i hi; omega, rfl⟩)
  omega
mutual
theorem steps_span_width : ∀ l : Lot, l.steps ≤ l.span * l.width
  | .step => by simp [Lot.steps, Lot.span, Lot.width]
  | .row l => by simp only [Lot.steps, Lot.span, Lot.width]; exact stepsL_span_width l
  | .both a b => by
    have h1 := steps_span_width a
    have h2 := steps_span_width b
    simp only [Lot.steps, Lot.span, Lot.width]
    have q1 : a.span * a.width ≤ max a.span b.span * a.width := Nat.mul_le_mul_right _ (by omega)
    have q2 : b.span * b.width ≤ max a.span b.span * b.width := Nat.mul_le_mul_right _ (by omega)
    rw [Nat.mul_add]
    omega
theorem stepsL_span_width : ∀ l : List Lot, Lot.stepsL l ≤ Lot.spanL l * Lot.widthL l
  | [] => by simp [Lot.stepsL]
  | x :: r => by
    have h1 := steps_span_width x
    have h2 := stepsL_span_width r
    simp only [Lot.stepsL, Lot.spanL, Lot.widthL]
    have q1 : x.span * x.width ≤ x.span * max x.width (Lot.widthL r) := Nat.mul_le_mul_left _ (by omega)
    have q2 : Lot.spanL r * Lot.widthL r ≤ Lot.spanL r * max x.width (Lot.widthL r) := Nat.mul_le_mul_left _ (by omega)
    rw [Nat.add_mul]
    omega
end
mutual
theorem span_le : ∀ l : Lot, l.span ≤ l.steps
  | .step => Nat.le_refl _
  | .row l => spanL_le l
  | .both a b => by
    have h1 := span_le a
    have h2 := span_le b
    simp only [Lot.span, Lot.steps]
    omega
theorem spanL_le : ∀ l : List Lot, Lot.spanL l ≤ Lot.stepsL l
  | [] => Nat.le_refl _
  | x :: r => by
    have h1 := span_le x
    have h2 := spanL_le r
    simp only [Lot.spanL, Lot.stepsL]
    omega
end
mutual
theorem width_le : ∀ l : Lot, l.width ≤ l.steps
  | .step => Nat.le_refl _
  | .row l => widthL_le l
  | .both a b => by
    have h1 := width_le a
    have h2 := width_le b
    simp only [Lot.width, Lot.steps]
    omega
theorem widthL_le : ∀ l : List Lot, Lot.widthL l ≤ Lot.stepsL l
  | [] => Nat.le_refl _
  | x :: r => by
    have h1 := width_le x
    have h2 := widthL_le r
    simp only [Lot.widthL, Lot.stepsL]
    omega
end
end HK
set_option Elab.async false
set_option linter.all false
set_option maxRecDepth 100000
set_option maxHeartbeats 400000
namespace HK
open PySem PySem.Spec PyProof.Rows L2
section
variable {w : World} {K : PySem.W.Frag} {mg : Str → Option Value} {base : Heap}
theorem yes_go {σ : L2.St} {H : Hp} {A B : Hp → Prop} (h : A H) : tYes σ H (fun b H3 => if b = true then A H3 else B H3) := by
  show if true = true then A H else B H
  rw [if_pos rfl]
  exact h
theorem small {n : Nat} (h : n ≤ 100000) : n ≤ sizeLine := Nat.le_trans h (by decide)
theorem same_new {M : List Addr} {H : Hp} {p : Addr} (h : H p = none) (o : HO) : Eff M H (upd H p o) := Eff.refl.put h
/-! ### lot_parts -/
def spParts (K : PySem.W.Frag) : Sp := fun vs H Q _ => ∃ M v d, vs = [v] ∧ At K M H d v ∧ isForm d = true ∧ ∀ H' a xs, Eff [] H H' → SqT K H' a xs → AtL K M H' (partsD d) xs → Q (.ref a) H'
theorem ok_lot_parts (T : Tx K mg) : Cal PP w K mg base CX0 "lot_parts" 1 ["lot"] (spParts K) := by
  refine T.ok_lot_parts (fun vs H Q E h => ?_) (fun cdv A outer s H vs Q E hr h => ?_)
  · obtain ⟨M, v, d, rfl, _⟩ := h
    rfl
  obtain ⟨M, v, d, rfl, hd, hf, q⟩ := h
  refine ⟨_, (pss_cons (ps_if (pt_cmpR op_eq (pe_ix ix_tup (pv 0) pe_int (fun _ _ => rfl)) pe_str (nomark _)) (pss_one (ps_ret (pe_ix ix_tup (pv 0) pe_int (fun _ _ => rfl)))) pss_nil)
      (pss_one (ps_ret (pe_ifExp (pt_cmpR op_eq (pe_ix ix_tup (pv 0) pe_int (fun _ _ => rfl)) pe_str (nomark _)) (pe_slice sl_tup (pv 0) (po_some pe_int) po_none) (pe_tup pa_nil))))), ?_⟩
  obtain ⟨z, ds, rfl, cs⟩ := form_inv hf
  obtain ⟨a, xs, rfl, ha, hl⟩ := At.tuple hd
  obtain ⟨x0, r, rfl, h0, hl1⟩ := AtL.cons hl
  obtain rfl := At.str h0
  refine ⟨_, rfl, a, _, _, _, rfl, rfl, ha, atI_nat (j := 0) rfl, rfl, _, rfl, ite2 (fun c => ?_) (fun c => ?_)⟩
  · have ez : z = "row" := V.str.inj (of_decide_eq_true c)
    subst ez
    rcases cs with ⟨_, l, rfl⟩ | ⟨e, _⟩ | ⟨e, _⟩
    · obtain ⟨v1, r1, rfl, h1, e2⟩ := AtL.cons hl1
      obtain ⟨b, ys, rfl, hb, hys⟩ := At.tuple h1
      refine ⟨_, rfl, a, _, _, _, rfl, rfl, ha, atI_nat (j := 1) rfl, ?_⟩
      refine q H b ys Eff.refl hb ?_
      simpa [partsD] using hys
    · exact absurd e word_rs
    · exact absurd e word_rb
  · have nz : ¬ z = "row" := fun e => c (decide_eq_true (congrArg V.str e))
    refine ⟨_, rfl, a, _, _, _, rfl, rfl, ha, atI_nat (j := 0) rfl, rfl, _, rfl, ite2 (fun c2 => ?_) (fun c2 => ?_)⟩
    · have ez : z = "both" := V.str.inj (of_decide_eq_true c2)
      subst ez
      have hl2 : ds.length = 2 := by
        rcases cs with ⟨e, _⟩ | ⟨e, _⟩ | ⟨_, e⟩
        · exact absurd e word_br
        · exact absurd e word_bs
        · exact e
      have hlr := AtL.length hl1
      refine ⟨_, rfl, _, rfl, a, _, rfl, ha, ?_, fun p hp => ?_⟩
      · intro z
        have z1 := z.1
        rw [show HT.sIx (V.str "both" :: r).length 0 (some 1) = min 1 (V.str "both" :: r).length from HT.sIx_nat _ 0 1, List.length_cons] at z1
        omega
      · have ec : cutV (V.str "both" :: r) (some 1) none = r := by
          unfold cutV
          rw [show HT.sIx (V.str "both" :: r).length 0 (some 1) = min 1 (V.str "both" :: r).length from HT.sIx_nat _ 0 1, HT.sIx_none, List.length_cons, show min 1 (r.length + 1) = 1 by omega]
          exact List.take_of_length_le (by simp)
        rw [ec]
        refine q _ p r (same_new hp _) (SqT.of upd_same) ?_
        have ep : partsD (.tuple (.str "both" :: ds)) = ds := by simp [partsD, word_br]
        rw [ep]
        exact AtL.new hp hl1
    · have nb : ¬ z = "both" := fun e => c2 (decide_eq_true (congrArg V.str e))
      refine ⟨Nat.zero_le _, fun p hp => ?_⟩
      refine q _ p [] (same_new hp _) (SqT.of upd_same) ?_
      have ep : partsD (.tuple (.str z :: ds)) = [] := by simp [partsD, nz, nb]
      rw [ep]
      rfl
/-! ### is_lot_form -/
theorem kit_tup (d : PyData) : PySem.W.kitOne K (.type (tyN d)) (.type "tuple") = some (tyN d == "tuple") := by
  cases d with
  | none => exact kit_ty (by decide +kernel : kitB "NoneType" "tuple" = some ("NoneType" == "tuple"))
  | bool b => exact kit_ty (by decide +kernel : kitB "bool" "tuple" = some ("bool" == "tuple"))
  | int b => exact kit_ty (by decide +kernel : kitB "int" "tuple" = some ("int" == "tuple"))
  | str b => exact kit_ty (by decide +kernel : kitB "str" "tuple" = some ("str" == "tuple"))
  | list b => exact kit_ty (by decide +kernel : kitB "list" "tuple" = some ("list" == "tuple"))
  | tuple b => exact kit_ty (by decide +kernel : kitB "tuple" "tuple" = some ("tuple" == "tuple"))
  | dict b => exact kit_ty (by decide +kernel : kitB "dict" "tuple" = some ("dict" == "tuple"))
theorem kit_str (d : PyData) : PySem.W.kitOne K (.type (tyN d)) (.type "str") = some (tyN d == "str") := by
  cases d with
  | none => exact kit_ty (by decide +kernel : kitB "NoneType" "str" = some ("NoneType" == "str"))
  | bool b => exact kit_ty (by decide +kernel : kitB "bool" "str" = some ("bool" == "str"))
  | int b => exact kit_ty (by decide +kernel : kitB "int" "str" = some ("int" == "str"))
  | str b => exact kit_ty (by decide +kernel : kitB "str" "str" = some ("str" == "str"))
  | list b => exact kit_ty (by decide +kernel : kitB "list" "str" = some ("list" == "str"))
  | tuple b => exact kit_ty (by decide +kernel : kitB "tuple" "str" = some ("tuple" == "str"))
  | dict b => exact kit_ty (by decide +kernel : kitB "dict" "str" = some ("dict" == "str"))
theorem isForm_nt {d : PyData} (h : (tyN d == "tuple") = false) : isForm d = false := by
  cases d <;> first | rfl | cases h
theorem isForm_ns {x : PyData} {ds : List PyData} (h : (tyN x == "str") = false) : isForm (.tuple (x :: ds)) = false := by
  cases x <;> first | rfl | cases h
def spForm (K : PySem.W.Frag) : Sp := fun vs H Q _ => ∃ M v d, vs = [v] ∧ At K M H d v ∧ ∀ H', Eff [] H H' → Q (.bl (isForm d)) H'
theorem ok_is_lot_form (T : Tx K mg) : Cal PP w K mg base CX0 "is_lot_form" 1 ["value"] (spForm K) := by
  refine T.ok_is_lot_form (fun vs H Q E h => ?_) (fun cdv A outer s H vs Q E hr h => ?_)
  · obtain ⟨M, v, d, rfl, _⟩ := h
    rfl
  obtain ⟨M, v, d, rfl, hd, q⟩ := h
  refine ⟨_, (pss_cons (ps_if (PW.pt (pw_or (pt_not (pt_val (pe_callB call_isi (by rfl) T.z_isinstance (by decide +kernel) (pa_cons (pv 0) (pa_cons (pe_bltn (v := .ty "tuple") rfl T.z_tuple (by decide +kernel) rfl) pa_nil))))) (pw_or (pt_cmpR (op_eqNilT hr.units0) (pv 0) (pe_tup pa_nil) (nomark _)) (pw_or1 (pt_not (pt_val (pe_callB call_isi (by rfl) T.z_isinstance (by decide +kernel) (pa_cons (pe_ix ix_tup (pv 0) pe_int (fun _ _ => rfl)) (pa_cons (pe_bltn (v := .ty "str") rfl T.z_str (by decide +kernel) rfl) pa_nil))))))))) (pss_one (ps_ret pe_bl)) pss_nil)
      (pss_cons (ps_if (pt_cmpR op_eq (pe_ix ix_tup (pv 0) pe_int (fun _ _ => rfl)) pe_str (nomark _)) (pss_one (ps_ret (pe_and (pe_cmpR op_eq (pe_callB call_len_seq (by rfl) T.z_len (by decide +kernel) (pa_cons (pv 0) pa_nil)) pe_int (nomark _)) (pe_one (pe_callB call_isi (by rfl) T.z_isinstance (by decide +kernel) (pa_cons (pe_ix ix_tup (pv 0) pe_int (fun _ _ => rfl)) (pa_cons (pe_bltn (v := .ty "tuple") rfl T.z_tuple (by decide +kernel) rfl) pa_nil))))))) pss_nil)
      (pss_one (ps_ret (pe_or (pe_cmpR (op_eqOneT hr.units0) (pv 0) (pe_tup (pa_cons pe_str pa_nil)) (nomark _)) (pe_one (pe_and (pe_cmpR op_eq (pe_ix ix_tup (pv 0) pe_int (fun _ _ => rfl)) pe_str (nomark _)) (pe_one (pe_cmpR op_eq (pe_callB call_len_seq (by rfl) T.z_len (by decide +kernel) (pa_cons (pv 0) pa_nil)) pe_int (nomark _)))))))))), ?_⟩
  refine ⟨_, rfl, _, _, _, _, _, rfl, .ty _, At.ty hd, kit_tup d, _, rfl, ?_⟩
  cases ct : tyN d == "tuple" with
  | false =>
    have e := isForm_nt ct
    rw [e] at q
    exact q H Eff.refl
  | true =>
    obtain ⟨ds, rfl⟩ : ∃ ds, d = .tuple ds := by cases d <;> first | exact ⟨_, rfl⟩ | cases ct
    obtain ⟨a, xs, rfl, ha, hl⟩ := At.tuple hd
    refine iteF ⟨_, rfl, Nat.zero_le _, fun p hp => ?_⟩
    have e1 : Eff [] H (upd H p (.tup [])) := same_new hp _
    refine ⟨a, p, xs, rfl, rfl, e1.seqT0 ha, SqT.of upd_same, _, rfl, ?_⟩
    cases ds with
    | nil =>
      obtain rfl : xs = [] := hl
      exact q _ e1
    | cons x ds =>
      obtain ⟨x0, r, rfl, h0, hl1⟩ := AtL.cons hl
      refine iteF ⟨_, rfl, a, _, _, _, rfl, rfl, e1.seqT0 ha, atI_nat (j := 0) rfl, _, _, _, _, _, rfl, .ty _, At.ty (At.eff e1 Lists.nil (fun _ z => absurd z (by simp)) x x0 h0), kit_str x, _, rfl, ?_⟩
      cases cs : tyN x == "str" with
      | false =>
        have e := isForm_ns (ds := ds) cs
        rw [e] at q
        exact q _ e1
      | true =>
        obtain ⟨z, rfl⟩ : ∃ z, x = .str z := by cases x <;> first | exact ⟨_, rfl⟩ | cases cs
        obtain rfl := At.str h0
        have hS := e1.seqT0 ha
        have hlen := AtL.length hl1
        refine ⟨_, rfl, a, _, _, _, rfl, rfl, hS, atI_nat (j := 0) rfl, rfl, _, rfl, ite2 (fun c => ?_) (fun c => ?_)⟩
        · have ez : z = "row" := V.str.inj (of_decide_eq_true c)
          subst ez
          refine ⟨_, rfl, a, _, rfl, .inr hS, rfl, _, rfl, ite2 (fun c2 => ?_) (fun c2 => ?_)⟩
          · have e2 : (((V.str "row" :: r).length : Nat) : Int) = 2 := V.int.inj (of_decide_eq_true c2)
            rw [List.length_cons] at e2
            have e3 : ds.length = 1 := by omega
            match ds, e3 with
            | [d1], _ =>
              obtain ⟨v1, r1, rfl, h1, e4⟩ := AtL.cons hl1
              obtain rfl : r1 = [] := e4
              refine ⟨_, rfl, a, _, _, _, rfl, rfl, hS, atI_nat (j := 1) rfl, _, _, _, _, _, rfl, .ty _, At.ty (At.eff e1 Lists.nil (fun _ z => absurd z (by simp)) d1 v1 h1), kit_tup d1, ?_⟩
              have e5 : isForm (.tuple [.str "row", d1]) = (tyN d1 == "tuple") := by cases d1 <;> simp [isForm, tyN]
              rw [e5] at q
              exact q _ e1
          · have e2 : ¬ (((V.str "row" :: r).length : Nat) : Int) = 2 := fun e => c2 (decide_eq_true (congrArg V.int e))
            rw [List.length_cons] at e2
            have e3 : isForm (.tuple (.str "row" :: ds)) = false := by
              match ds, hlen with
              | [], _ => simp [isForm]
              | [_], h => simp at h; omega
              | _ :: _ :: _, _ => simp [isForm]
            rw [e3] at q
            exact q _ e1
        · have nz : ¬ z = "row" := fun e => c (decide_eq_true (congrArg V.str e))
          have ef : isForm (.tuple (.str z :: ds)) = ((decide (z = "step") && ds.isEmpty) || (decide (z = "both") && decide (ds.length = 2))) := by simp [isForm, nz]
          refine ⟨_, rfl, (by decide), fun p2 hp2 => ?_⟩
          have e2 := e1.put (M := []) (p := p2) (o := .tup [.str "step"]) (e1.free hp2 (by simp))
          refine ⟨a, p2, z, r, "step", rfl, rfl, e2.seqT0 ha, SqT.of upd_same, _, rfl, ?_⟩
          have er : r.isEmpty = ds.isEmpty := by
            cases r <;> cases ds <;> first | rfl | (simp at hlen)
          rw [er]
          cases c3 : decide (z = "step") && ds.isEmpty with
          | true =>
            rw [ef, c3] at q
            exact q _ e2
          | false =>
            refine iteF ⟨_, rfl, a, _, _, _, rfl, rfl, e2.seqT0 ha, atI_nat (j := 0) rfl, rfl, _, rfl, ite2 (fun c4 => ?_) (fun c4 => ?_)⟩
            · have ez : z = "both" := V.str.inj (of_decide_eq_true c4)
              refine ⟨_, rfl, a, _, rfl, .inr (e2.seqT0 ha), rfl, ?_⟩
              have e5 : decide (V.int (((V.str z :: r).length : Nat) : Int) = V.int 3) = decide (ds.length = 2) := by
                rw [List.length_cons]
                by_cases e6 : ds.length = 2
                · rw [decide_eq_true e6, decide_eq_true (by rw [hlen, e6]; rfl)]
                · rw [decide_eq_false e6, decide_eq_false]
                  intro e7
                  have e8 := V.int.inj e7
                  omega
              show Q (V.bl (decide (V.int (((V.str z :: r).length : Nat) : Int) = V.int 3))) _
              rw [e5]
              rw [ef, c3, decide_eq_true ez, Bool.false_or, Bool.true_and] at q
              exact q _ e2
            · have nb : ¬ z = "both" := fun e => c4 (decide_eq_true (congrArg V.str e))
              rw [ef, c3, decide_eq_false nb, Bool.false_or, Bool.false_and] at q
              exact q _ e2
/-! ### is_lot -/
def spIsLot (K : PySem.W.Frag) : Sp := fun vs H Q _ => ∃ M v d, vs = [v] ∧ At K M H d v ∧ sizeD d ≤ 1000000 ∧ ∀ H', Eff [] H H' → Q (.bl (isLotD d)) H'
theorem wordD_form {z : Str} {ds : List PyData} : wordD (.tuple (.str z :: ds)) = z := rfl
theorem ok_is_lot (T : Tx K mg) : Cal PP w K mg base CX0 "is_lot" 2 ["value"] (spIsLot K) := by
  have c_lot_parts := ok_lot_parts (w := w) (base := base) T
  have c_is_lot_form := ok_is_lot_form (w := w) (base := base) T
  refine T.ok_is_lot (fun vs H Q E h => ?_) (fun cdv A outer s H vs Q E hr h => ?_)
  · obtain ⟨M, v, d, rfl, _⟩ := h
    rfl
  obtain ⟨M, v, d, rfl, hd, hz, q⟩ := h
  refine ⟨_, (pss_cons (ps_par3 (i := 1) (j := 2) (l := 3) (by rfl) (sc_is_lot).nd rfl rfl rfl (by decide) (by decide) (by decide) rfl rfl rfl (pa_cons (pe_lst (pa_cons (pe_tup (pa_cons (pv 0) (pa_cons pe_int pa_nil))) pa_nil)) (pa_cons pe_int (pa_cons pe_int pa_nil))) (by rfl))
      (pss_cons (ps_while PassesOwn.never (pt_cmpR (op_neNil hr.units0) (pv 1) (pe_lst pa_nil) (nomark _)) (pss_cons (ps_asg (pe_bm0 PySem.F.plainAttrs_list PySem.F.slot_list_pop PySem.F.type_list_pop mt_pop (pv 1)) (pg_tup rfl (pgs_cons (pg_name (i := 4) (sc_is_lot).nd rfl (by first | exact Or.inl rfl | exact Or.inr rfl)) (pgs_cons (pg_name (i := 5) (sc_is_lot).nd rfl (by first | exact Or.inl rfl | exact Or.inr rfl)) pgs_nil))))
      (pss_cons (ps_aug (i := 2) (sc_is_lot).nd rfl (by first | exact Or.inl rfl | exact Or.inr rfl) pe_int ip_add)
      (pss_cons (ps_if (PW.pt (pw_or (pt_cmpR op_gt (pv 2) (pe_gint T.i_MOST_LOTS) (nomark _)) (pw_or (pt_cmpR op_gt (pv 5) (pe_gint T.i_MOST_LOT_DEEP) (nomark _)) (pw_or1 (pt_not (pt_val (pe_c c_is_lot_form (hr.mono (by first | decide | omega)) pass0 (pa_cons (pv 4) pa_nil)))))))) (pss_one (ps_ret pe_bl)) pss_nil)
      (pss_cons (ps_aug (i := 3) (sc_is_lot).nd rfl (by first | exact Or.inl rfl | exact Or.inr rfl) (pe_callTy call_int1 (by rfl) T.z_int (by decide +kernel) (pa_cons (pe_cmpR op_eq (pe_ix ix_tup (pv 4) pe_int (fun _ _ => rfl)) pe_str (nomark _)) pa_nil)) ip_add)
      (pss_one (ps_expr (pe_bm PySem.F.plainAttrs_list PySem.F.slot_list_extend PySem.F.type_list_extend mt_extend (pv 1) (pa_cons (pe_lc (own := [("part", 6)]) (g := (gName 6)) (tt := tYes) (by rfl) (sc_is_lot).nd (pi_tup (pe_c c_lot_parts (hr.mono (by first | decide | omega)) pass0 (pa_cons (pv 4) pa_nil))) (blkOk_by (own := [("part", 6)]) (N := nm_is_lot) (sc := sp_is_lot) (by decide +kernel)) (fun _ _ _ _ _ => (pg_name (i := 6) (sc_is_lot).nd rfl (by first | exact Or.inl rfl | exact Or.inr rfl))) (fun _ _ _ _ _ => pts_nil) (fun _ _ _ _ _ => (pe_tup (pa_cons (pv 6) (pa_cons (pe_op op_add (pv 5) pe_int) pa_nil))))) pa_nil)))))))))
      (pss_one (ps_ret (pe_cmpR op_le (pv 3) (pe_gint T.i_MOST_STEPS) (nomark _)))))), ?_⟩
  -- waiting, many, steps = ([(value, 1)], 0, 0)
  refine ⟨_, rfl, small (by simp), fun t nt => ⟨small (by simp), fun l nl => ⟨_, _, _, rfl, ?_⟩⟩⟩
  have nlt : l ≠ t := fun e => by rw [e, upd_same] at nl; cases nl
  have l0 : H l = none := by rw [upd_ne nlt] at nl; exact nl
  refine ⟨fun n σ H1 => ∃ st many steps xs y4 y5 y6, σ = [some v, some (.ref l), some (.int (many : Nat)), some (.int (steps : Nat)), y4, y5, y6] ∧ n + many = 4002 ∧ many ≤ 4000 ∧ Eff [] H H1 ∧ H1 l = some (.lst xs) ∧ stSize st ≤ 1000000 ∧ AtL K (l :: M) H1 (st.reverse.map pairD) xs ∧ lotRun n st many steps = isLotD d, ⟨4002, [(d, 1)], 0, 0, [.ref t], none, none, none, rfl, rfl, by decide, (Eff.refl.put nt).put l0, upd_same, (by show sizeD d + 0 ≤ _; omega), ?_, rfl⟩, ?_⟩
  · refine AtL.new nl ?_
    refine ⟨.ref t, [], rfl, AtL.pair (SqT.of upd_same) (At.new nt (At.fresh l0 d v hd)) rfl, rfl⟩
  rintro n σ H1 ⟨st, many, steps, xs, y4, y5, y6, rfl, hn, hm, e1, hl, hx, hst, hres⟩
  -- while waiting != []
  refine ⟨_, rfl, small (by simp), fun p hp => ?_⟩
  have npl : l ≠ p := ne_of_none hl hp
  refine ⟨l, p, xs, rfl, rfl, .inl (.inl (by rw [upd_ne npl]; exact hl)), .inl (.inl upd_same), _, rfl, ?_⟩
  obtain ⟨n', rfl⟩ : ∃ n', n = n' + 1 := ⟨n - 1, by omega⟩
  have e2 : Eff [] H (upd H1 p (.lst [])) := e1.put (e1.free hp (by simp))
  cases st with
  | nil =>
    obtain rfl : xs = [] := hst
    refine iteF ?_
    -- return steps <= MOST_STEPS
    refine ⟨_, rfl, _, _, rfl, rfl, ?_⟩
    have er : isLotD d = decide ((steps : Int) ≤ 600) := by
      rw [← hres, lotRun]
      by_cases c : steps ≤ 600
      · rw [decide_eq_true c, decide_eq_true (by omega)]
      · rw [decide_eq_false c, decide_eq_false (by omega)]
    show Q (V.bl (decide ((steps : Int) ≤ 600))) _
    rw [← er]
    exact q _ e2
  | cons top rest =>
    obtain ⟨d1, dep⟩ := top
    rw [List.reverse_cons, List.map_append] at hst
    obtain ⟨ys, zs, rfl, hys, hzs⟩ := AtL.split hst
    obtain ⟨v1, r1, rfl, hv1, hr1⟩ := AtL.cons hzs
    obtain rfl : r1 = [] := hr1
    have ee : (!(ys ++ [v1]).isEmpty) = true := by cases ys <;> rfl
    rw [ee]
    refine iteT ⟨_, fun _ _ h => h, ?_⟩
    have hl2 : upd H1 p (.lst []) l = some (.lst (ys ++ [v1])) := by rw [upd_ne npl]; exact hl
    -- one, deep = waiting.pop()
    refine ⟨_, rfl, .inl ⟨rfl, _, .inl (.inl hl2)⟩, l, _, v1, rfl, rfl, hl2, by simp, ?_⟩
    have ed : (ys ++ [v1]).dropLast = ys := by simp
    rw [ed]
    have e3 := e2.put (p := l) (o := .lst ys) l0
    have hys3 : AtL K (l :: M) (upd (upd H1 p (.lst [])) l (.lst ys)) (rest.reverse.map pairD) ys := AtL.put hl2 (by simp) (AtL.new hp hys)
    have hv3 : At K (l :: M) (upd (upd H1 p (.lst [])) l (.lst ys)) (pairD (d1, dep)) v1 := At.put hl2 (by simp) (At.new hp hv1)
    have hl3 : (upd (upd H1 p (.lst [])) l (.lst ys)) l = some (.lst ys) := upd_same
    generalize (upd (upd H1 p (.lst [])) l (.lst ys)) = H3 at e3 hys3 hv3 hl3 ⊢
    obtain ⟨a, xs2, rfl, ha, hxs2⟩ := At.tuple hv3
    obtain ⟨one, r2, rfl, h1, hr2⟩ := AtL.cons hxs2
    obtain ⟨vd, r3, rfl, h2, hr3⟩ := AtL.cons hr2
    obtain rfl : r3 = [] := hr3
    obtain rfl : vd = .int (dep : Nat) := h2
    refine ⟨a, _, rfl, ha, rfl, _, _, rfl, _, _, rfl, rfl, ?_⟩
    -- many += 1
    refine ⟨_, rfl, _, _, rfl, rfl, ?_⟩
    -- if many > MOST_LOTS or ..
    have fin : ∀ H', Eff [] H3 H' → (4000 < many + 1 ∨ 60 < dep ∨ isForm d1 = false) → Q (.bl false) H' := fun H' e c => by
      have er : isLotD d = false := by
        rw [← hres, lotRun, if_pos c]
      rw [← er]
      exact q _ (e3.trans e)
    refine ⟨_, rfl, _, _, rfl, rfl, _, rfl, ?_⟩
    by_cases c1 : 4000 < many + 1
    · rw [decide_eq_true (show (4000 : Int) < (many : Nat) + 1 by omega)]
      exact fin _ Eff.refl (.inl c1)
    rw [decide_eq_false (show ¬ (4000 : Int) < (many : Nat) + 1 by omega)]
    refine iteF ⟨_, rfl, _, _, rfl, rfl, _, rfl, ?_⟩
    by_cases c2 : 60 < dep
    · rw [decide_eq_true (show (60 : Int) < (dep : Nat) by omega)]
      exact fin _ Eff.refl (.inr (.inl c2))
    rw [decide_eq_false (show ¬ (60 : Int) < (dep : Nat) by omega)]
    refine iteF ⟨_, rfl, l :: M, _, d1, rfl, h1, fun H4 e4 => ⟨_, rfl, ?_⟩⟩
    cases hf : isForm d1 with
    | false => exact fin _ e4 (.inr (.inr hf))
    | true =>
      refine iteF ?_
      have h14 : At K (l :: M) H4 d1 one := At.eff e4 Lists.nil (fun _ z => absurd z (by simp)) d1 one h1
      have hl4 : H4 l = some (.lst ys) := e4 _ _ hl3 (by simp)
      have hys4 : AtL K (l :: M) H4 (rest.reverse.map pairD) ys := AtL.eff e4 Lists.nil (fun _ z => absurd z (by simp)) _ _ hys3
      have ef4 : Eff [] H H4 := e3.trans e4
      obtain ⟨z, ds, ed1, cs⟩ := form_inv hf
      have h14' := h14
      rw [ed1] at h14'
      obtain ⟨b, xs5, rfl, hb, hxs5⟩ := At.tuple h14'
      obtain ⟨x0, r, rfl, hx0, _⟩ := AtL.cons hxs5
      obtain rfl : x0 = V.str z := hx0
      -- steps += int(one[0] == 'step')
      refine ⟨_, rfl, _, rfl, b, _, _, _, rfl, rfl, hb, atI_nat (j := 0) rfl, rfl, .inr ⟨_, rfl, _, _, rfl, rfl, ?_⟩⟩
      -- waiting.extend([(part, deep + 1) for part in lot_parts(one)])
      refine ⟨_, rfl, .inl ⟨rfl, _, .inl (.inl hl4)⟩, _, rfl, l :: M, _, d1, rfl, h14, hf, fun H5 a5 ps e5 hps hpd => ⟨a5, rfl, ⟨_, hps⟩, fun D nD => ?_⟩⟩
      have hl5 : H5 l = some (.lst ys) := e5 _ _ hl4 (by simp)
      have hys5 : AtL K (l :: M) H5 (rest.reverse.map pairD) ys := AtL.eff e5 Lists.nil (fun _ z => absurd z (by simp)) _ _ hys4
      have ef5 : Eff [] H H5 := ef4.trans e5
      have D0 : H D = none := ef5.free nD (by simp)
      have nlD : l ≠ D := ne_of_none hl5 nD
      have lp : ps.length = (partsD d1).length := AtL.length hpd
      have hz1 := stSize_next (dep := dep) (rest := rest) hf
      have hzz := stSize_len (((partsD d1).map fun x => (x, dep + 1)).reverse ++ rest)
      rw [List.length_append, List.length_reverse, List.length_map] at hzz
      have lys : ys.length = rest.length := by
        have e := AtL.length hys5
        rw [e, List.length_map, List.length_reverse]
      refine lc_tup (K := K) (a := a5) (xs := ps) (fun i H6 => ∃ acc, H6 D = some (.lst acc) ∧ AtL K (D :: l :: M) H6 (((partsD d1).take i).map fun x => pairD (x, dep + 1)) acc ∧ AtL K (D :: l :: M) H6 (partsD d1) ps ∧ SqT K H6 a5 ps ∧ H6 l = some (.lst ys) ∧ AtL K (D :: l :: M) H6 (rest.reverse.map pairD) ys ∧ Eff [] H H6) ?_ (fun i H6 _ ⟨_, _, _, _, h, _⟩ => h) ?_ ?_
      · exact ⟨[], upd_same, rfl, AtL.new nD (AtL.fresh nD _ _ hpd), SqT.new nD hps, by rw [upd_ne nlD]; exact hl5, AtL.new nD (AtL.fresh nD _ _ hys5), ef5.put D0⟩
      · rintro i x H6 hi ⟨acc, hD, hacc, hpd6, hps6, hl6, hys6, ef6⟩
        have hil := (List.getElem?_eq_some_iff.mp hi).1
        obtain ⟨dx, edx, hdx⟩ := AtL.get hpd6 hi
        have lacc := AtL.length hacc
        rw [List.length_map, List.length_take] at lacc
        refine ⟨rfl, yes_go ⟨_, rfl, _, rfl, _, _, rfl, rfl, small (by simp), fun p2 np => ?_⟩⟩
        have nDp : D ≠ p2 := ne_of_none hD np
        have nlp2 : l ≠ p2 := ne_of_none hl6 np
        have hD7 : upd H6 p2 (.tup [x, .int ((dep : Nat) + 1)]) D = some (.lst acc) := by rw [upd_ne nDp]; exact hD
        refine ⟨acc, hD7, Nat.lt_of_lt_of_le (show acc.length < 1000001 by omega) (by decide), acc ++ [.ref p2], upd_same, ?_, AtL.put hD7 (by simp) (AtL.new np hpd6), SqT.put hD7 (SqT.new np hps6), by rw [upd_ne nlD, upd_ne nlp2]; exact hl6, AtL.put hD7 (by simp) (AtL.new np hys6), (ef6.put (ef6.free np (by simp))).put D0⟩
        rw [List.take_add_one, edx, List.map_append]
        refine AtL.snoc (AtL.put hD7 (by simp) (AtL.new np hacc)) (AtL.pair (y := .int ((dep : Nat) + 1)) ?_ (At.put hD7 (by simp) (At.new np hdx)) ?_)
        · exact SqT.put hD7 (SqT.of upd_same)
        · show V.int ((dep : Nat) + 1) = V.int ((dep + 1 : Nat) : Int)
          rw [Int.natCast_add]
          rfl
      · rintro H6 ⟨acc, hD, hacc, hpd6, hps6, hl6, hys6, ef6⟩
        rw [lp, List.take_length] at hacc
        have lacc := AtL.length hacc
        rw [List.length_map] at lacc
        have hzt := stSize_len ((d1, dep) :: rest)
        refine ⟨l, D, ys, acc, rfl, rfl, hl6, hD, Nat.le_trans (show ys.length + acc.length ≤ 1000000 by omega) (by decide), ?_⟩
        refine ⟨n', by omega, ((partsD d1).map fun x => (x, dep + 1)).reverse ++ rest, many + 1, steps + (if wordD d1 = "step" then 1 else 0), ys ++ acc, some (.ref b), some (.int (dep : Nat)), y6, ?_, by omega, by omega, ef6.put l0, upd_same, by omega, ?_, ?_⟩
        · have e1 : ((many : Int) + 1) = ((many + 1 : Nat) : Int) := by rw [Int.natCast_add]; rfl
          have e2 : ((steps : Int) + (if decide (V.str z = V.str "step") = true then 1 else 0)) = ((steps + (if wordD d1 = "step" then 1 else 0) : Nat) : Int) := by
            rw [ed1, wordD_form]
            by_cases c : z = "step"
            · rw [if_pos c, decide_eq_true (congrArg V.str c), if_pos rfl]
              omega
            · rw [if_neg c, decide_eq_false (fun e => c (V.str.inj e)), if_neg Bool.false_ne_true]
              omega
          rw [← e1, ← e2]
          rfl
        · rw [List.reverse_append, List.reverse_reverse, List.map_append, List.map_map]
          refine AtL.less (M := D :: l :: M) (fun b hb => List.mem_cons_of_mem _ hb) _ _ (AtL.append (AtL.put hl6 (by simp) hys6) (AtL.put hl6 (by simp) hacc))
        · have no : ¬ (4000 < many + 1 ∨ 60 < dep ∨ isForm d1 = false) := by
            rintro (c | c | c)
            · exact c1 c
            · exact c2 c
            · rw [hf] at c; cases c
          rw [← hres, lotRun, if_neg no]
end
end HK
set_option Elab.async false
set_option linter.all false
set_option maxRecDepth 100000
set_option maxHeartbeats 400000
namespace HK
open PySem PySem.Spec PyProof.Rows L2
section
variable {w : World} {K : PySem.W.Frag} {mg : Str → Option Value} {base : Heap}
/-! ### checked_lot -/
/-- the refusal by the class C with the number i -/
def Refuse (E : XK) (C : Addr) (i : Int) (H : Hp) : Prop := ∀ H' dd, Eff [] H H' → H dd = none → H' dd = some (.xd [(("at" : Str), .int i)]) → E (.ref C) (some dd) H'
theorem Refuse.after {E : XK} {C : Addr} {i : Int} {H H1 : Hp} (r : Refuse E C i H) (e : Eff [] H H1) : Refuse E C i H1 := fun H' dd e' h0 h1 => r H' dd (e.trans e') (e.free h0 (by simp)) h1
abbrev IQ (K : PySem.W.Frag) : Addr := He.ga K "InvalidQuestion"
def spChecked (K : PySem.W.Frag) : Sp := fun vs H Q E => ∃ M v d, ∃ i : Int, vs = [v, .int i] ∧ At K M H d v ∧ sizeD d ≤ 1000000 ∧ (isLotD d = true → ∀ H', Eff [] H H' → Q .non H') ∧ (isLotD d = false → Refuse E (IQ K) i H)
theorem ok_checked_lot (T : Tx K mg) : Cal PP w K mg base (L2.CX PP w) "checked_lot" 3 ["value", "at"] (spChecked K) := by
  have c_is_lot := ok_is_lot (w := w) (base := base) T
  refine T.okx_checked_lot (fun vs H Q E h => ?_) (fun cdv A outer s H vs Q E hr h => ?_)
  · obtain ⟨M, v, d, i, rfl, _⟩ := h
    rfl
  obtain ⟨M, v, d, i, rfl, hd, hz, q, r⟩ := h
  refine ⟨_, (pss_one (ps_if (pt_not (pt_val (pe_c c_is_lot (hr.mono (by first | decide | omega)) pass0 (pa_cons (pv 0) pa_nil)))) (pss_one (ps_raiseAt rfl T.x_InvalidQuestion T.g_InvalidQuestion hr (takes_of rfl rfl rfl rfl) (pa_cons (pv 1) pa_nil))) pss_nil)), ?_⟩
  refine ⟨_, rfl, M, _, d, rfl, hd, hz, fun H1 e1 => ⟨_, rfl, ?_⟩⟩
  cases c : isLotD d with
  | true => exact q c H1 e1
  | false =>
    refine ⟨_, rfl, _, rfl, fun dd nd => ?_⟩
    exact r c _ dd (e1.put (e1.free nd (by simp))) (e1.free nd (by simp)) upd_same
/-! ### steps_in -/
def spStepsIn (K : PySem.W.Frag) : Sp := fun vs H Q _ => ∃ v l, vs = [v] ∧ LotAt K H l v ∧ l.nodes ≤ 1000000 ∧ ∀ H', Eff [] H H' → Q (.int (l.steps : Nat)) H'
theorem LotAt.parts_of {M : List Addr} {H : Hp} {l : Lot} {xs : List V} (h : AtL K M H (partsD l.data) xs) : LotsAt K H l.parts xs := by
  rw [partsD_lot] at h
  exact AtL.any _ _ (imm_lots _) h
theorem LotsAt.append {H : Hp} {a b : List Lot} {xs ys : List V} (h : LotsAt K H a xs) (h' : LotsAt K H b ys) : LotsAt K H (a ++ b) (xs ++ ys) := by
  unfold LotsAt
  rw [Lot.dataL_eq, List.map_append, ← Lot.dataL_eq, ← Lot.dataL_eq]
  exact AtL.append h h'
theorem LotsAt.last {H : Hp} {a : List Lot} {x : Lot} {xs : List V} (h : LotsAt K H (a ++ [x]) xs) : ∃ ys v, xs = ys ++ [v] ∧ LotsAt K H a ys ∧ LotAt K H x v := by
  unfold LotsAt at h
  rw [Lot.dataL_eq, List.map_append, ← Lot.dataL_eq] at h
  obtain ⟨ys, zs, e, h1, h2⟩ := AtL.split h
  obtain ⟨v, r, e2, h3, h4⟩ := AtL.cons h2
  obtain rfl : r = [] := h4
  exact ⟨ys, v, by rw [e, e2], h1, h3⟩
theorem ok_steps_in (T : Tx K mg) : Cal PP w K mg base CX0 "steps_in" 2 ["lot"] (spStepsIn K) := by
  have c_lot_parts := ok_lot_parts (w := w) (base := base) T
  refine T.ok_steps_in (fun vs H Q E h => ?_) (fun cdv A outer s H vs Q E hr h => ?_)
  · obtain ⟨v, l, rfl, _⟩ := h
    rfl
  obtain ⟨v, lot, rfl, hv, hz, q⟩ := h
  refine ⟨_, (pss_cons (ps_par (i := 1) (j := 2) (by rfl) (sc_steps_in).nd rfl rfl (by decide) rfl rfl (pa_cons (pe_lst (pa_cons (pv 0) pa_nil)) (pa_cons pe_int pa_nil)) (by rfl))
      (pss_cons (ps_while PassesOwn.never (pt_cmpR (op_neNil hr.units0) (pv 1) (pe_lst pa_nil) (nomark _)) (pss_cons (ps_set (i := 3) (sc_steps_in).nd rfl (by first | exact Or.inl rfl | exact Or.inr rfl) (pe_bm0 PySem.F.plainAttrs_list PySem.F.slot_list_pop PySem.F.type_list_pop mt_pop (pv 1)))
      (pss_cons (ps_aug (i := 2) (sc_steps_in).nd rfl (by first | exact Or.inl rfl | exact Or.inr rfl) (pe_callTy call_int1 (by rfl) T.z_int (by decide +kernel) (pa_cons (pe_cmpR op_eq (pe_ix ix_tup (pv 3) pe_int (fun _ _ => rfl)) pe_str (nomark _)) pa_nil)) ip_add)
      (pss_one (ps_expr (pe_bm PySem.F.plainAttrs_list PySem.F.slot_list_extend PySem.F.type_list_extend mt_extT (pv 1) (pa_cons (pe_c c_lot_parts (hr.mono (by first | decide | omega)) pass0 (pa_cons (pv 3) pa_nil)) pa_nil)))))))
      (pss_one (ps_ret (pv 2))))), ?_⟩
  -- waiting, found = ([lot], 0)
  refine ⟨_, rfl, small (by simp), fun l nl => ⟨_, _, rfl, ?_⟩⟩
  refine ⟨fun n σ H1 => ∃ st found xs y3, σ = [some v, some (.ref l), some (.int (found : Nat)), y3] ∧ Lot.nodesL st = n ∧ n ≤ 1000000 ∧ Eff [] H H1 ∧ H1 l = some (.lst xs) ∧ LotsAt K H1 st xs ∧ found + Lot.stepsL st = lot.steps, ⟨lot.nodes, [lot], 0, [v], none, rfl, by simp [Lot.nodesL], hz, Eff.refl.put nl, upd_same, ?_, by simp [Lot.stepsL]⟩, ?_⟩
  · exact ⟨v, [], rfl, hv.same (Eff.refl.put nl), rfl⟩
  rintro n σ H1 ⟨st, found, xs, y3, rfl, hn, hm, e1, hl, hst, hres⟩
  -- while waiting != []
  refine ⟨_, rfl, small (by simp), fun p hp => ?_⟩
  have npl : l ≠ p := ne_of_none hl hp
  refine ⟨l, p, xs, rfl, rfl, .inl (.inl (by rw [upd_ne npl]; exact hl)), .inl (.inl upd_same), _, rfl, ?_⟩
  have e2 : Eff [] H (upd H1 p (.lst [])) := e1.put (e1.free hp (by simp))
  rcases List.eq_nil_or_concat st with rfl | ⟨init, x, rfl⟩
  · obtain rfl : xs = [] := hst
    refine iteF ⟨_, rfl, ?_⟩
    have er : found = lot.steps := by simpa [Lot.stepsL] using hres
    rw [er]
    exact q _ e2
  · rw [List.concat_eq_append] at hst hn hres
    obtain ⟨ys, v1, rfl, hys, hv1⟩ := hst.last
    have ee : (!(ys ++ [v1]).isEmpty) = true := by cases ys <;> rfl
    rw [ee]
    refine iteT ⟨_, fun _ _ h => h, ?_⟩
    have hl2 : upd H1 p (.lst []) l = some (.lst (ys ++ [v1])) := by rw [upd_ne npl]; exact hl
    -- one = waiting.pop()
    refine ⟨_, rfl, .inl ⟨rfl, _, .inl (.inl hl2)⟩, l, _, v1, rfl, rfl, hl2, by simp, ?_⟩
    have ed : (ys ++ [v1]).dropLast = ys := by simp
    rw [ed]
    have l0 : H l = none := nl
    have e3 := e2.put (p := l) (o := .lst ys) l0
    have hys3 : LotsAt K (upd (upd H1 p (.lst [])) l (.lst ys)) init ys := (hys.same (Eff.refl.put hp)).keep (M := [l]) (Eff.refl.set (by simp)) (Lists.one hl2 rfl)
    have hv3 : LotAt K (upd (upd H1 p (.lst [])) l (.lst ys)) x v1 := (hv1.same (Eff.refl.put hp)).keep (M := [l]) (Eff.refl.set (by simp)) (Lists.one hl2 rfl)
    have hl3 : (upd (upd H1 p (.lst [])) l (.lst ys)) l = some (.lst ys) := upd_same
    generalize (upd (upd H1 p (.lst [])) l (.lst ys)) = H3 at e3 hys3 hv3 hl3 ⊢
    obtain ⟨a, r, rfl, ha⟩ := hv3.tup
    -- found += int(one[0] == 'step')
    refine ⟨_, rfl, _, rfl, a, _, _, _, rfl, rfl, ha, atI_nat (j := 0) rfl, rfl, .inr ⟨_, rfl, _, _, rfl, rfl, ?_⟩⟩
    -- waiting.extend(lot_parts(one))
    refine ⟨_, rfl, .inl ⟨rfl, _, .inl (.inl hl3)⟩, _, rfl, [], _, x.data, rfl, hv3, isForm_lot x, fun H5 a5 ps e5 hps hpd => ?_⟩
    have hl5 : H5 l = some (.lst ys) := e5 _ _ hl3 (by simp)
    have hpl := LotAt.parts_of hpd
    have hys5 := hys3.same e5
    have n1 := nodes_parts x
    have n2 := nodesL_append init [x]
    have n3 := nodesL_append init x.parts
    simp only [Lot.nodesL] at n2
    have s1 := steps_parts x
    have s2 := stepsL_append init [x]
    have s3 := stepsL_append init x.parts
    simp only [Lot.stepsL] at s2
    have l1 := hys5.length
    have l2 := hpl.length
    have l3 := nodesL_len (init ++ x.parts)
    rw [List.length_append] at l3
    refine ⟨l, a5, ys, ps, rfl, rfl, hl5, hps, Nat.le_trans (show ys.length + ps.length ≤ 1000000 by omega) (by decide), ?_⟩
    refine ⟨Lot.nodesL (init ++ x.parts), by omega, init ++ x.parts, found + (if x.word = "step" then 1 else 0), ys ++ ps, some (.ref a), ?_, rfl, by omega, (e3.trans e5).put l0, upd_same, ?_, by omega⟩
    · have e2 : ((found : Int) + (if decide (V.str x.word = V.str "step") = true then 1 else 0)) = ((found + (if x.word = "step" then 1 else 0) : Nat) : Int) := by
        by_cases c : x.word = "step"
        · rw [if_pos c, decide_eq_true (congrArg V.str c), if_pos rfl]
          omega
        · rw [if_neg c, decide_eq_false (fun e => c (V.str.inj e)), if_neg Bool.false_ne_true]
          omega
      rw [← e2]
      rfl
    · exact (hys5.append hpl).keep (M := [l]) (Eff.refl.set (by simp)) (Lists.one hl5 rfl)
end
end HK
set_option Elab.async false
set_option linter.all false
set_option maxRecDepth 100000
set_option maxHeartbeats 400000
namespace HK
open PySem PySem.Spec PyProof.Rows L2
section
variable {w : World} {K : PySem.W.Frag} {mg : Str → Option Value} {base : Heap}
/-- a number of a lot -/
def spNum (K : PySem.W.Frag) (f : Lot → Nat) (n : Nat) : Sp := fun vs H Q _ => ∃ v l, vs = [v] ∧ LotAt K H l v ∧ l.depth ≤ n ∧ l.nodes ≤ 1000000 ∧ ∀ H', Eff [] H H' → Q (.int (f l : Nat)) H'
def numsV (f : Lot → Nat) (l : List Lot) : List V := l.map fun x => V.int (f x : Nat)
theorem numsV_ints (f : Lot → Nat) (l : List Lot) : numsV f l = ((l.map f).map fun n : Nat => (n : Int)).map V.int := by
  unfold numsV
  rw [List.map_map, List.map_map]
  rfl
theorem SqT.eff {H H1 : Hp} {a : Addr} {xs : List V} (h : SqT K H a xs) (e : Eff [] H H1) : SqT K H1 a xs := e.seqT0 h
theorem nodes_part {l : Lot} {x : Lot} {i : Nat} (hx : l.parts[i]? = some x) : x.nodes ≤ l.nodes := by
  have h1 := nodes_parts l
  have h2 := nodesL_mem (List.mem_of_getElem? hx)
  omega
theorem ok_span_in (T : Tx K mg) : ∀ n, Cal PP w K mg base CX0 "span_in" (n + 1) ["lot"] (spNum K Lot.span n)
  | 0 => T.ok_span_in (fun vs H Q E h => by obtain ⟨v, l, rfl, _⟩ := h; rfl) (fun cdv A outer s H vs Q E hr h => by
      obtain ⟨v, l, rfl, _, hd, _⟩ := h
      have := depth_pos l
      omega)
  | n + 1 => by
    have c_span_in := ok_span_in T n
    have c_lot_parts := ok_lot_parts (w := w) (base := base) T
    refine T.ok_span_in (fun vs H Q E h => ?_) (fun cdv A outer s H vs Q E hr h => ?_)
    · obtain ⟨v, l, rfl, _⟩ := h
      rfl
    obtain ⟨v, lot, rfl, hv, hd, hz, q⟩ := h
    refine ⟨_, (pss_cons (ps_setLc (i := 1) (own := [("part", 2)]) (g := (gName 2)) (tt := tYes) (by rfl) (sc_span_in).nd rfl rfl (sw_true rfl rfl rfl (by decide +kernel)) (pi_tup (pe_c c_lot_parts (hr.mono (by first | decide | omega)) pass0 (pa_cons (pv 0) pa_nil))) (blkOk_by (own := [("part", 2)]) (N := nm_span_in) (sc := sp_span_in) (by decide +kernel)) (fun _ _ _ _ _ => (pg_name (i := 2) (sc_span_in).nd rfl (by first | exact Or.inl rfl | exact Or.inr rfl))) (fun _ _ _ _ _ => pts_nil) (fun _ _ _ _ _ => (pe_c c_span_in (hr.mono (by first | decide | omega)) pass0 (pa_cons (pv 2) pa_nil))))
      (pss_cons (ps_if (pt_cmpR op_eq (pe_ix ix_tup (pv 0) pe_int (fun _ _ => rfl)) pe_str (nomark _)) (pss_one (ps_ret pe_int)) pss_nil)
      (pss_one (ps_ret (pe_ifExp (pt_cmpR op_eq (pe_ix ix_tup (pv 0) pe_int (fun _ _ => rfl)) pe_str (nomark _)) (pe_callB (cr_sum rfl) (by rfl) T.z_sum (by decide +kernel) (pa_cons (pv 1) pa_nil)) (pe_callB (cr_max rfl) (by rfl) T.z_max (by decide +kernel) (pa_cons (pv 1) pa_nil))))))), ?_⟩
    -- parts = [span_in(part) for part in lot_parts(lot)]
    refine ⟨_, rfl, [], _, lot.data, rfl, hv, isForm_lot lot, fun H1 a ps e1 hps hpd => ⟨a, rfl, ⟨_, hps⟩, fun D nD => ?_⟩⟩
    have hpl := LotAt.parts_of hpd
    have D0 : H D = none := e1.free nD (by simp)
    refine lc_tup (K := K) (a := a) (xs := ps) (fun i H2 => H2 D = some (.lst (numsV Lot.span (lot.parts.take i))) ∧ Eff [] H H2 ∧ SqT K H2 a ps ∧ LotsAt K H2 lot.parts ps) ⟨upd_same, e1.put D0, SqT.new nD hps, hpl.same (Eff.refl.put nD)⟩ (fun i H2 _ h => h.2.2.1) ?_ ?_
    · rintro i x H2 hi ⟨hD, ef, hps2, hpl2⟩
      obtain ⟨part, hp, hx⟩ := hpl2.get hi
      have hil := (List.getElem?_eq_some_iff.mp hi).1
      have hlen := hpl2.length
      have hnl := nodesL_len lot.parts
      have hnp := nodes_parts lot
      refine ⟨rfl, yes_go ⟨_, rfl, x, part, rfl, hx, depth_part hd hp, Nat.le_trans (nodes_part hp) hz, fun H3 e3 => ?_⟩⟩
      have hD3 := e3.at hD (by simp)
      refine ⟨_, hD3, ?_, ?_, (ef.trans e3).put D0, SqT.put hD3 (e3.seqT0 hps2), (hpl2.same e3).keep (M := [D]) (Eff.refl.set (by simp)) (Lists.one hD3 rfl)⟩
      · unfold numsV
        rw [List.length_map, List.length_take]
        exact Nat.lt_of_lt_of_le (show min i lot.parts.length < 1000001 by omega) (by decide)
      · rw [upd_same, List.take_add_one, hp]
        unfold numsV
        rw [List.map_append]
        rfl
    · rintro H2 ⟨hD, ef, hps2, hpl2⟩
      rw [hpl2.length, List.take_length] at hD
      obtain ⟨b, r, eb, hb⟩ := (hv.same ef).tup
      subst eb
      -- if lot[0] == 'step'
      refine ⟨_, rfl, b, _, _, _, rfl, rfl, hb, atI_nat (j := 0) rfl, rfl, _, rfl, ite2 (fun c => ?_) (fun c => ?_)⟩
      · have ew := V.str.inj (of_decide_eq_true c)
        have el : lot = .step := by
          cases lot with
          | step => rfl
          | row l => exact absurd ew word_rs
          | both x y => exact absurd ew word_bs
        subst el
        exact q _ ef
      · refine ⟨_, rfl, b, _, _, _, rfl, rfl, hb, atI_nat (j := 0) rfl, rfl, _, rfl, ite2 (fun c2 => ?_) (fun c2 => ?_)⟩
        · have ew := V.str.inj (of_decide_eq_true c2)
          obtain ⟨l, el⟩ : ∃ l, lot = .row l := by
            cases lot with
            | step => exact absurd ew word_sr
            | row l => exact ⟨l, rfl⟩
            | both x y => exact absurd ew word_br
          subst el
          refine ⟨_, rfl, D, (l.map Lot.span).map fun n : Nat => (n : Int), rfl, .inl (.inl (by rw [hD]; exact congrArg (fun z => some (HO.lst z)) (numsV_ints _ _))), ?_⟩
          rw [sum_cast, ← spanL_sum]
          exact q _ ef
        · obtain ⟨x, y, el⟩ : ∃ x y, lot = .both x y := by
            cases lot with
            | step => exact absurd (decide_eq_true rfl) c
            | row l => exact absurd (decide_eq_true rfl) c2
            | both x y => exact ⟨x, y, rfl⟩
          subst el
          refine ⟨_, rfl, D, [(x.span : Int), (y.span : Int)], rfl, .inl (.inl hD), by simp, fun m hm hle => ?_⟩
          have em : m = (((Lot.both x y).span : Nat) : Int) := by
            have h1 := hle x.span (by simp)
            have h2 := hle y.span (by simp)
            simp at hm
            simp only [Lot.span]
            omega
          rw [em]
          exact q _ ef
theorem ok_width_in (T : Tx K mg) : ∀ n, Cal PP w K mg base CX0 "width_in" (n + 1) ["lot"] (spNum K Lot.width n)
  | 0 => T.ok_width_in (fun vs H Q E h => by obtain ⟨v, l, rfl, _⟩ := h; rfl) (fun cdv A outer s H vs Q E hr h => by
      obtain ⟨v, l, rfl, _, hd, _⟩ := h
      have := depth_pos l
      omega)
  | n + 1 => by
    have c_width_in := ok_width_in T n
    have c_lot_parts := ok_lot_parts (w := w) (base := base) T
    refine T.ok_width_in (fun vs H Q E h => ?_) (fun cdv A outer s H vs Q E hr h => ?_)
    · obtain ⟨v, l, rfl, _⟩ := h
      rfl
    obtain ⟨v, lot, rfl, hv, hd, hz, q⟩ := h
    refine ⟨_, (pss_cons (ps_setLc (i := 1) (own := [("part", 2)]) (g := (gName 2)) (tt := tYes) (by rfl) (sc_width_in).nd rfl rfl (sw_true rfl rfl rfl (by decide +kernel)) (pi_tup (pe_c c_lot_parts (hr.mono (by first | decide | omega)) pass0 (pa_cons (pv 0) pa_nil))) (blkOk_by (own := [("part", 2)]) (N := nm_width_in) (sc := sp_width_in) (by decide +kernel)) (fun _ _ _ _ _ => (pg_name (i := 2) (sc_width_in).nd rfl (by first | exact Or.inl rfl | exact Or.inr rfl))) (fun _ _ _ _ _ => pts_nil) (fun _ _ _ _ _ => (pe_c c_width_in (hr.mono (by first | decide | omega)) pass0 (pa_cons (pv 2) pa_nil))))
      (pss_cons (ps_if (pt_cmpR op_eq (pe_ix ix_tup (pv 0) pe_int (fun _ _ => rfl)) pe_str (nomark _)) (pss_one (ps_ret pe_int)) pss_nil)
      (pss_one (ps_ret (pe_ifExp (pt_cmpR op_eq (pe_ix ix_tup (pv 0) pe_int (fun _ _ => rfl)) pe_str (nomark _)) (pe_callB (cr_max rfl) (by rfl) T.z_max (by decide +kernel) (pa_cons (pe_op op_cat (pe_lst (pa_cons pe_int pa_nil)) (pv 1)) pa_nil)) (pe_callB (cr_sum rfl) (by rfl) T.z_sum (by decide +kernel) (pa_cons (pv 1) pa_nil))))))), ?_⟩
    -- parts = [width_in(part) for part in lot_parts(lot)]
    refine ⟨_, rfl, [], _, lot.data, rfl, hv, isForm_lot lot, fun H1 a ps e1 hps hpd => ⟨a, rfl, ⟨_, hps⟩, fun D nD => ?_⟩⟩
    have hpl := LotAt.parts_of hpd
    have D0 : H D = none := e1.free nD (by simp)
    refine lc_tup (K := K) (a := a) (xs := ps) (fun i H2 => H2 D = some (.lst (numsV Lot.width (lot.parts.take i))) ∧ Eff [] H H2 ∧ SqT K H2 a ps ∧ LotsAt K H2 lot.parts ps) ⟨upd_same, e1.put D0, SqT.new nD hps, hpl.same (Eff.refl.put nD)⟩ (fun i H2 _ h => h.2.2.1) ?_ ?_
    · rintro i x H2 hi ⟨hD, ef, hps2, hpl2⟩
      obtain ⟨part, hp, hx⟩ := hpl2.get hi
      have hil := (List.getElem?_eq_some_iff.mp hi).1
      have hlen := hpl2.length
      have hnl := nodesL_len lot.parts
      have hnp := nodes_parts lot
      refine ⟨rfl, yes_go ⟨_, rfl, x, part, rfl, hx, depth_part hd hp, Nat.le_trans (nodes_part hp) hz, fun H3 e3 => ?_⟩⟩
      have hD3 := e3.at hD (by simp)
      refine ⟨_, hD3, ?_, ?_, (ef.trans e3).put D0, SqT.put hD3 (e3.seqT0 hps2), (hpl2.same e3).keep (M := [D]) (Eff.refl.set (by simp)) (Lists.one hD3 rfl)⟩
      · unfold numsV
        rw [List.length_map, List.length_take]
        exact Nat.lt_of_lt_of_le (show min i lot.parts.length < 1000001 by omega) (by decide)
      · rw [upd_same, List.take_add_one, hp]
        unfold numsV
        rw [List.map_append]
        rfl
    · rintro H2 ⟨hD, ef, hps2, hpl2⟩
      have hlen := hpl2.length
      have hnl := nodesL_len lot.parts
      have hnp := nodes_parts lot
      rw [hpl2.length, List.take_length] at hD
      obtain ⟨b, r, eb, hb⟩ := (hv.same ef).tup
      subst eb
      -- if lot[0] == 'step'
      refine ⟨_, rfl, b, _, _, _, rfl, rfl, hb, atI_nat (j := 0) rfl, rfl, _, rfl, ite2 (fun c => ?_) (fun c => ?_)⟩
      · have ew := V.str.inj (of_decide_eq_true c)
        have el : lot = .step := by
          cases lot with
          | step => rfl
          | row l => exact absurd ew word_rs
          | both x y => exact absurd ew word_bs
        subst el
        exact q _ ef
      · refine ⟨_, rfl, b, _, _, _, rfl, rfl, hb, atI_nat (j := 0) rfl, rfl, _, rfl, ite2 (fun c2 => ?_) (fun c2 => ?_)⟩
        · have ew := V.str.inj (of_decide_eq_true c2)
          obtain ⟨l, el⟩ : ∃ l, lot = .row l := by
            cases lot with
            | step => exact absurd ew word_sr
            | row l => exact ⟨l, rfl⟩
            | both x y => exact absurd ew word_br
          subst el
          refine ⟨small (by simp), fun p1 n1 => ⟨_, rfl, p1, D, _, _, rfl, rfl, upd_same, by rw [upd_ne (ne_of_none hD n1)]; exact hD, ?_, fun p2 n2 => ?_⟩⟩
          · unfold numsV
            rw [List.length_map, List.length_singleton]
            have hnl' : l.length ≤ Lot.nodesL l := hnl
            exact Nat.le_trans (show 1 + l.length ≤ 1000001 by simp [Lot.parts] at hnp; omega) (by decide)
          have e4 : V.int 0 :: numsV Lot.width l = ((0 : Int) :: (l.map Lot.width).map fun n : Nat => (n : Int)).map V.int := by
            rw [List.map_cons, ← numsV_ints]
          refine ⟨p2, (0 : Int) :: (l.map Lot.width).map fun n : Nat => (n : Int), rfl, .inl (.inl ?_), by simp, fun m hm hle => ?_⟩
          · rw [upd_same, ← e4]
            rfl
          · have em : m = (((Lot.row l).width : Nat) : Int) := by
              simp only [Lot.width]
              rcases List.mem_cons.mp hm with e | hm
              · rcases widthL_mem l with e0 | ⟨x, hx, ex⟩
                · omega
                · have := hle x.width (List.mem_cons_of_mem _ (List.mem_map.mpr ⟨x.width, List.mem_map.mpr ⟨x, hx, rfl⟩, rfl⟩))
                  omega
              · obtain ⟨k, hk, ek⟩ := List.mem_map.mp hm
                obtain ⟨y, hy, ey⟩ := List.mem_map.mp hk
                have h1 := widthL_ge hy
                rcases widthL_mem l with e0 | ⟨x, hx, ex⟩
                · omega
                · have := hle x.width (List.mem_cons_of_mem _ (List.mem_map.mpr ⟨x.width, List.mem_map.mpr ⟨x, hx, rfl⟩, rfl⟩))
                  omega
            rw [em]
            exact q _ ((ef.put (ef.free n1 (by simp))).put ((ef.put (ef.free n1 (by simp))).free n2 (by simp)))
        · obtain ⟨x, y, el⟩ : ∃ x y, lot = .both x y := by
            cases lot with
            | step => exact absurd (decide_eq_true rfl) c
            | row l => exact absurd (decide_eq_true rfl) c2
            | both x y => exact ⟨x, y, rfl⟩
          subst el
          refine ⟨_, rfl, D, [(x.width : Int), (y.width : Int)], rfl, .inl (.inl hD), ?_⟩
          have em : ([(x.width : Int), (y.width : Int)]).sum = (((Lot.both x y).width : Nat) : Int) := by
            simp only [Lot.width, List.sum_cons, List.sum_nil]
            omega
          rw [em]
          exact q _ ef
end
end HK
set_option Elab.async false
set_option linter.all false
set_option maxRecDepth 100000
set_option maxHeartbeats 400000
namespace HK
open PySem PySem.Spec PyProof.Rows L2
section
variable {w : World} {K : PySem.W.Frag} {mg : Str → Option Value} {base : Heap}
/-- a question about a lot, any value: what is told of a lot, the refusal of what is none -/
def spAsk (K : PySem.W.Frag) (post : Lot → Hp → VK → Prop) : Sp := fun vs H Q E => ∃ v, vs = [v] ∧
  ((∃ l, LotAt K H l v ∧ isLotD l.data = true ∧ post l H Q) ∨ ∃ M d, At K M H d v ∧ sizeD d ≤ 1000000 ∧ isLotD d = false ∧ Refuse E (IQ K) 0 H)
def postNum (f : Lot → Nat) : Lot → Hp → VK → Prop := fun l H Q => ∀ H', Eff [] H H' → Q (.int (f l : Nat)) H'
/-- checked_lot(lot, 0), then the rest -/
theorem ask_checked {post : Lot → Hp → VK → Prop} {v : V} {H : Hp} {Q R : VK} {E : XK} (h : (∃ l, LotAt K H l v ∧ isLotD l.data = true ∧ post l H Q) ∨ ∃ M d, At K M H d v ∧ sizeD d ≤ 1000000 ∧ isLotD d = false ∧ Refuse E (IQ K) 0 H)
    (go : ∀ l H1, Eff [] H H1 → LotAt K H1 l v → l.nodes ≤ 4000 → l.depth ≤ 60 → l.steps ≤ 600 → post l H Q → R .non H1) : spChecked K [v, .int 0] H R E := by
  rcases h with ⟨l, hl, ok, p⟩ | ⟨M, d, hd, hz, no, r⟩
  · obtain ⟨h1, h2, h3⟩ := (isLot_iff l).mp ok
    have hz := size_lot l
    exact ⟨[], v, l.data, 0, rfl, hl, by omega, fun _ H' e => go l H' e (hl.same e) h1 h2 h3 p, fun no => by (rw [ok] at no; cases no)⟩
  · exact ⟨M, v, d, 0, rfl, hd, hz, fun ok => (by rw [no] at ok; cases ok), fun _ => r⟩
theorem st_drop {te : TE} {u : TS} {D : Ends} {σ : L2.St} {H : Hp} (h : te σ H fun _ H1 => u D σ H1) : tSeq (tDrop te) u D σ H := h
theorem ask_call {post : Lot → Hp → VK → Prop} {i : Nat} {σ : L2.St} {v : V} {H : Hp} {Q R : VK} {E : XK} (hσ : σ[i]? = some (some v)) (h : (∃ l, LotAt K H l v ∧ isLotD l.data = true ∧ post l H Q) ∨ ∃ M d, At K M H d v ∧ sizeD d ≤ 1000000 ∧ isLotD d = false ∧ Refuse E (IQ K) 0 H)
    (go : ∀ l H1, Eff [] H H1 → LotAt K H1 l v → l.nodes ≤ 4000 → l.depth ≤ 60 → l.steps ≤ 600 → post l H Q → R .non H1) : tCall (spChecked K) [] E (tCons (tVar i) (tCons (tC (.int 0)) tNil)) σ H R :=
  ⟨v, hσ, ask_checked h go⟩
theorem ok_work_in (T : Tx K mg) : Cal PP w K mg base (L2.CX PP w) "work_in" 4 ["lot"] (spAsk K (postNum Lot.steps)) := by
  have c_checked_lot := ok_checked_lot (w := w) (base := base) T
  have c_steps_in := ok_steps_in (w := w) (base := base) T
  refine T.okx_work_in (fun vs H Q E h => ?_) (fun cdv A outer s H vs Q E hr h => ?_)
  · obtain ⟨v, rfl, _⟩ := h
    rfl
  obtain ⟨v, rfl, h⟩ := h
  refine ⟨_, (pss_cons (ps_expr (pe_c c_checked_lot (hr.mono (by first | decide | omega)) (passes_call (takes_of rfl rfl rfl rfl) fun _ _ _ _ h => h) (pa_cons (pv 0) (pa_cons pe_int pa_nil))))
      (pss_one (ps_ret (pe_c c_steps_in (hr.mono (by first | decide | omega)) pass0 (pa_cons (pv 0) pa_nil))))), ?_⟩
  refine st_drop (ask_call rfl h fun l H1 e1 hl n1 n2 n3 p => ?_)
  exact ⟨_, rfl, _, l, rfl, hl, by omega, fun H2 e2 => p H2 (e1.trans e2)⟩
theorem ok_span (T : Tx K mg) : Cal PP w K mg base (L2.CX PP w) "span" 62 ["lot"] (spAsk K (postNum Lot.span)) := by
  have c_checked_lot := ok_checked_lot (w := w) (base := base) T
  have c_span_in := ok_span_in (w := w) (base := base) T 60
  refine T.okx_span (fun vs H Q E h => ?_) (fun cdv A outer s H vs Q E hr h => ?_)
  · obtain ⟨v, rfl, _⟩ := h
    rfl
  obtain ⟨v, rfl, h⟩ := h
  refine ⟨_, (pss_cons (ps_expr (pe_c c_checked_lot (hr.mono (by first | decide | omega)) (passes_call (takes_of rfl rfl rfl rfl) fun _ _ _ _ h => h) (pa_cons (pv 0) (pa_cons pe_int pa_nil))))
      (pss_one (ps_ret (pe_c c_span_in (hr.mono (by first | decide | omega)) pass0 (pa_cons (pv 0) pa_nil))))), ?_⟩
  refine st_drop (ask_call rfl h fun l H1 e1 hl n1 n2 n3 p => ?_)
  exact ⟨_, rfl, _, l, rfl, hl, n2, by omega, fun H2 e2 => p H2 (e1.trans e2)⟩
theorem ok_width (T : Tx K mg) : Cal PP w K mg base (L2.CX PP w) "width" 62 ["lot"] (spAsk K (postNum Lot.width)) := by
  have c_checked_lot := ok_checked_lot (w := w) (base := base) T
  have c_width_in := ok_width_in (w := w) (base := base) T 60
  refine T.okx_width (fun vs H Q E h => ?_) (fun cdv A outer s H vs Q E hr h => ?_)
  · obtain ⟨v, rfl, _⟩ := h
    rfl
  obtain ⟨v, rfl, h⟩ := h
  refine ⟨_, (pss_cons (ps_expr (pe_c c_checked_lot (hr.mono (by first | decide | omega)) (passes_call (takes_of rfl rfl rfl rfl) fun _ _ _ _ h => h) (pa_cons (pv 0) (pa_cons pe_int pa_nil))))
      (pss_one (ps_ret (pe_c c_width_in (hr.mono (by first | decide | omega)) pass0 (pa_cons (pv 0) pa_nil))))), ?_⟩
  refine st_drop (ask_call rfl h fun l H1 e1 hl n1 n2 n3 p => ?_)
  exact ⟨_, rfl, _, l, rfl, hl, n2, by omega, fun H2 e2 => p H2 (e1.trans e2)⟩
end
end HK
set_option Elab.async false
set_option linter.all false
set_option maxRecDepth 100000
set_option maxHeartbeats 400000
namespace HK
open PySem PySem.Spec PyProof.Rows L2
/-! ### LotPlace -/
def pfs (w : Str) (f : Int) (pl : Addr) (m l : Int) : List (Str × V) := [("word", .str w), ("first", .int f), ("parts", .ref pl), ("many", .int m), ("left", .int l)]
theorem pfs_word {w f pl m l} : (pfs w f pl m l).lookup ("word" : Str) = some (.str w) := by rfl
theorem pfs_first {w f pl m l} : (pfs w f pl m l).lookup ("first" : Str) = some (.int f) := by rfl
theorem pfs_parts {w f pl m l} : (pfs w f pl m l).lookup ("parts" : Str) = some (.ref pl) := by rfl
theorem pfs_many {w f pl m l} : (pfs w f pl m l).lookup ("many" : Str) = some (.int m) := by rfl
theorem pfs_left {w f pl m l} : (pfs w f pl m l).lookup ("left" : Str) = some (.int l) := by rfl
theorem put_many {w f pl m l n} : putF "many" (.int n) (pfs w f pl m l) = pfs w f pl n l := by rfl
theorem put_left {w f pl m l n} : putF "left" (.int n) (pfs w f pl m l) = pfs w f pl m n := by rfl
/-- the steps of a lot that are not done -/
def undone (dn : Nat → Bool) (first n : Nat) : Nat := ((List.range n).filter fun i => !dn (first + i)).length
mutual
/-- at p stands the place of the lot, its steps numbered from first, dn: which are done; F: the addresses of its objects -/
inductive PlaceAt (C : Addr) (dn : Nat → Bool) (H : Hp) : Lot → Nat → Addr → List Addr → Prop
  | mk {l : Lot} {first : Nat} {p dx pl : Addr} {xs : List V} {Fs : List Addr} : H p = some (.ins C dx (pfs l.word (first : Nat) pl (l.steps : Nat) (undone dn first l.steps : Nat))) → H pl = some (.lst xs) → PlacesAt C dn H l.parts first xs Fs → p ∉ Fs → pl ∉ Fs → PlaceAt C dn H l first p (p :: pl :: Fs)
inductive PlacesAt (C : Addr) (dn : Nat → Bool) (H : Hp) : List Lot → Nat → List V → List Addr → Prop
  | nil {first : Nat} : PlacesAt C dn H [] first [] []
  | cons {x : Lot} {r : List Lot} {first : Nat} {p : Addr} {xs : List V} {F Fs : List Addr} : PlaceAt C dn H x first p F → PlacesAt C dn H r (first + x.steps) xs Fs → (∀ a ∈ F, a ∉ Fs) → PlacesAt C dn H (x :: r) first (.ref p :: xs) (F ++ Fs)
end
section
variable {C : Addr} {dn : Nat → Bool} {H H1 : Hp} {M : List Addr}
mutual
theorem PlaceAt.eff (e : Eff M H H1) : ∀ {l : Lot} {first : Nat} {p : Addr} {F : List Addr}, PlaceAt C dn H l first p F → (∀ a ∈ F, a ∉ M) → PlaceAt C dn H1 l first p F
  | _, _, _, _, .mk h1 h2 h3 h4 h5, n => .mk (e _ _ h1 (n _ (by simp))) (e _ _ h2 (n _ (by simp))) (PlacesAt.eff e h3 fun a ha => n a (by simp [ha])) h4 h5
theorem PlacesAt.eff (e : Eff M H H1) : ∀ {l : List Lot} {first : Nat} {xs : List V} {F : List Addr}, PlacesAt C dn H l first xs F → (∀ a ∈ F, a ∉ M) → PlacesAt C dn H1 l first xs F
  | _, _, _, _, .nil, _ => .nil
  | _, _, _, _, .cons h1 h2 h3, n => .cons (PlaceAt.eff e h1 fun a ha => n a (by simp [ha])) (PlacesAt.eff e h2 fun a ha => n a (by simp [ha])) h3
end
theorem PlaceAt.ins {l : Lot} {first : Nat} {p : Addr} {F : List Addr} (h : PlaceAt C dn H l first p F) : ∃ dx pl, H p = some (.ins C dx (pfs l.word (first : Nat) pl (l.steps : Nat) (undone dn first l.steps : Nat))) := by
  cases h with
  | mk h1 => exact ⟨_, _, h1⟩
mutual
theorem PlaceAt.there : ∀ {l : Lot} {first : Nat} {p : Addr} {F : List Addr}, PlaceAt C dn H l first p F → ∀ a ∈ F, ∃ o, H a = some o
  | _, _, _, _, .mk h1 h2 h3 h4 h5, a, ha => by
    rcases List.mem_cons.mp ha with e | ha
    · exact ⟨_, by rw [e]; exact h1⟩
    · rcases List.mem_cons.mp ha with e | ha
      · exact ⟨_, by rw [e]; exact h2⟩
      · exact PlacesAt.there h3 a ha
theorem PlacesAt.there : ∀ {l : List Lot} {first : Nat} {xs : List V} {F : List Addr}, PlacesAt C dn H l first xs F → ∀ a ∈ F, ∃ o, H a = some o
  | _, _, _, _, .nil, a, ha => by cases ha
  | _, _, _, _, .cons h1 h2 h3, a, ha => by
    rcases List.mem_append.mp ha with ha | ha
    · exact PlaceAt.there h1 a ha
    · exact PlacesAt.there h2 a ha
end
theorem PlacesAt.snoc : ∀ {l : List Lot} {first : Nat} {xs : List V} {F Fx : List Addr} {x : Lot} {p : Addr}, PlacesAt C dn H l first xs F → PlaceAt C dn H x (first + Lot.stepsL l) p Fx → (∀ a ∈ F, a ∉ Fx) → PlacesAt C dn H (l ++ [x]) first (xs ++ [.ref p]) (F ++ Fx)
  | [], first, xs, F, Fx, x, p, h, hx, n => by
    cases h
    have hx' : PlaceAt C dn H x first p Fx := by simpa [Lot.stepsL] using hx
    have e := PlacesAt.cons (r := []) (xs := []) (Fs := []) hx' .nil (fun a _ => by simp)
    simpa using e
  | y :: r, first, xs, F, Fx, x, p, h, hx, n => by
    cases h with
    | @cons _ _ _ p0 xs0 F0 Fs0 h1 h2 h3 =>
      have e : PlaceAt C dn H x (first + y.steps + Lot.stepsL r) p Fx := by
        rw [Nat.add_assoc]
        exact hx
      have q := PlacesAt.snoc h2 e (fun a ha => n a (List.mem_append_right _ ha))
      have z := PlacesAt.cons h1 q (fun a ha hb => (List.mem_append.mp hb).elim (h3 a ha) (n a (List.mem_append_left _ ha)))
      simpa using z
theorem PlacesAt.length : ∀ {l : List Lot} {first : Nat} {xs : List V} {F : List Addr}, PlacesAt C dn H l first xs F → xs.length = l.length
  | [], _, _, _, .nil => rfl
  | _ :: _, _, _, _, .cons h1 h2 h3 => by rw [List.length_cons, List.length_cons, PlacesAt.length h2]
theorem PlacesAt.get : ∀ {l : List Lot} {first : Nat} {xs : List V} {F : List Addr} {i : Nat} {v : V}, PlacesAt C dn H l first xs F → xs[i]? = some v → ∃ x p Fx, l[i]? = some x ∧ v = .ref p ∧ PlaceAt C dn H x (first + Lot.stepsL (l.take i)) p Fx ∧ ∀ a ∈ Fx, a ∈ F
  | [], _, _, _, i, v, .nil, e => by simp at e
  | x :: r, first, _, _, 0, v, .cons (p := p) (F := F) h1 h2 h3, e => ⟨x, p, F, rfl, (Option.some.inj e).symm, by simpa [Lot.stepsL] using h1, fun a ha => List.mem_append_left _ ha⟩
  | x :: r, first, _, _, i + 1, v, .cons h1 h2 h3, e => by
    obtain ⟨y, p, Fx, e1, e2, e3, e4⟩ := PlacesAt.get h2 (by simpa using e)
    refine ⟨y, p, Fx, by simpa using e1, e2, ?_, fun a ha => List.mem_append_right _ (e4 a ha)⟩
    have q : first + x.steps + Lot.stepsL (r.take i) = first + Lot.stepsL ((x :: r).take (i + 1)) := by
      rw [List.take_succ_cons, Lot.stepsL]
      omega
    rw [← q]
    exact e3
end
/-- a heap is known by what is told of it alone -/
theorem gen_heap {P : Hp → Prop} {H : Hp} (F : Hp → Prop) (h : F H) (k : ∀ H', F H' → P H') : P H := k H h
abbrev noneDone : Nat → Bool := fun _ => false
theorem undone_none (f n : Nat) : undone noneDone f n = n := by
  unfold undone
  rw [List.filter_eq_self.mpr (by simp)]
  simp
theorem steps_take_le : ∀ (l : List Lot) (i : Nat), Lot.stepsL (l.take i) ≤ Lot.stepsL l
  | [], i => by simp
  | x :: r, 0 => by simp [Lot.stepsL]
  | x :: r, i + 1 => by
    have := steps_take_le r i
    rw [List.take_succ_cons, Lot.stepsL, Lot.stepsL]
    omega
theorem steps_take_succ : ∀ {l : List Lot} {i : Nat} {x : Lot}, l[i]? = some x → Lot.stepsL (l.take (i + 1)) = Lot.stepsL (l.take i) + x.steps
  | [], i, x, h => by simp at h
  | y :: r, 0, x, h => by
    obtain rfl : y = x := Option.some.inj h
    simp [Lot.stepsL]
  | y :: r, i + 1, x, h => by
    have := steps_take_succ (l := r) (i := i) (x := x) (by simpa using h)
    rw [List.take_succ_cons, Lot.stepsL, this, List.take_succ_cons, Lot.stepsL]
    omega
section
variable {w : World} {K : PySem.W.Frag} {mg : Str → Option Value} {base : Heap}
abbrev LP (K : PySem.W.Frag) : Addr := He.ga K "LotPlace"
def spPlace (K : PySem.W.Frag) (n : Nat) : Sp := fun vs H Q _ => ∃ (p dx : Addr) (v : V) (l : Lot) (first : Nat), vs = [.ref p, v, .int (first : Nat)] ∧ H p = some (.ins (LP K) dx []) ∧ LotAt K H l v ∧ l.depth ≤ n ∧ l.nodes ≤ 1000000 ∧
  ∀ H' F, Eff [p] H H' → PlaceAt (LP K) noneDone H' l first p F → (∀ a ∈ F, a = p ∨ H a = none) → Q .non H'
theorem ok_place (T : Tx K mg) : ∀ n, MkCal PP w K mg base CX0 "LotPlace" (LP K) (2 * n + 1) ["self", "lot", "first"] (spPlace K n)
  | 0 => T.ok_LotPlace___init (fun vs H Q E h => by obtain ⟨p, dx, v, l, f, rfl, _⟩ := h; rfl) (fun cdv A outer s H vs Q E hr h => by
      obtain ⟨p, dx, v, l, f, rfl, _, _, hd, _⟩ := h
      have := depth_pos l
      omega)
  | n + 1 => by
    have c_LotPlace := ok_place T n
    have c_lot_parts := ok_lot_parts (w := w) (base := base) T
    refine (T.ok_LotPlace___init (k := 2 * n + 2) (fun vs H Q E h => ?_) (fun cdv A outer s H vs Q E hr h => ?_))
    · obtain ⟨p, dx, v, l, f, rfl, _⟩ := h
      rfl
    obtain ⟨p, dx, v, lot, first, rfl, hp, hv, hd, hz, q⟩ := h
    refine ⟨_, (pss_cons (ps_fld (pv 0) (pe_ix ix_tup (pv 1) pe_int (fun _ _ => rfl)) rfl)
      (pss_cons (ps_fld (pv 0) (pv 2) rfl)
      (pss_cons (ps_fld (pv 0) (pe_lst pa_nil) rfl)
      (pss_cons (ps_fld (pv 0) (pe_callTy call_int1 (by rfl) T.z_int (by decide +kernel) (pa_cons (pe_cmpR op_eq (pe_fld (pv 0) rfl) pe_str (nomark _)) pa_nil)) rfl)
      (pss_cons (ps_fld (pv 0) (pe_fld (pv 0) rfl) rfl)
      (pss_cons (ps_for PassesOwn.never rfl (pi_tup (pe_c c_lot_parts (hr.mono (by first | decide | omega)) pass0 (pa_cons (pv 1) pa_nil))) (pg_name (i := 3) (sc_LotPlace___init).nd rfl (by first | exact Or.inl rfl | exact Or.inr rfl)) (pss_cons (ps_expr (pe_bm PySem.F.plainAttrs_list PySem.F.slot_list_append PySem.F.type_list_append mt_append (pe_fld (pv 0) rfl) (pa_cons (pe_mkc c_LotPlace (hr.mono (by first | decide | omega)) pass0 (pa_cons (pv 3) (pa_cons (pe_op op_add (pv 2) (pe_fld (pv 0) rfl)) pa_nil))) pa_nil)))
      (pss_one (ps_fldaug (pv 0) (pe_fld (pe_ix ix_list (pe_fld (pv 0) rfl) (pe_un un_neg pe_int) (fun _ _ => rfl)) rfl) in_add))))
      (pss_one (ps_fld (pv 0) (pe_fld (pv 0) rfl) rfl)))))))), ?_⟩
    obtain ⟨b, r, rfl, hb⟩ := hv.tup
    have Hp0 : H p ≠ none := by rw [hp]; simp
    -- self.word = lot[0]; self.first = first; self.parts = []; self.many = int(self.word == 'step'); self.left = self.many
    refine ⟨_, rfl, b, _, _, _, rfl, rfl, hb, atI_nat (j := 0) rfl, _, rfl, p, LP K, dx, [], rfl, hp, T.cls_LotPlace, T.no_LotPlace_word, by decide, ?_⟩
    refine ⟨_, rfl, _, rfl, p, LP K, dx, _, rfl, upd_same, T.cls_LotPlace, T.no_LotPlace_first, (by show 1 < 1000; decide), ?_⟩
    rw [upd_upd]
    refine ⟨Nat.zero_le _, fun pl npl => ?_⟩
    have npp : pl ≠ p := fun e => by rw [e, upd_same] at npl; cases npl
    refine ⟨_, rfl, p, LP K, dx, _, rfl, Eq.trans (upd_ne npp.symm) upd_same, T.cls_LotPlace, T.no_LotPlace_parts, (by show 2 < 1000; decide), ?_⟩
    have pl0 : H pl = none := by rw [upd_ne npp] at npl; exact npl
    refine ⟨_, rfl, p, LP K, dx, _, _, rfl, upd_same, T.cls_LotPlace, T.no_LotPlace_word, rfl, rfl, .inr ⟨_, rfl, _, rfl, p, LP K, dx, _, rfl, upd_same, T.cls_LotPlace, T.no_LotPlace_many, (by show 3 < 1000; decide), ?_⟩⟩
    rw [upd_upd]
    refine ⟨_, rfl, p, LP K, dx, _, _, rfl, upd_same, T.cls_LotPlace, T.no_LotPlace_many, rfl, _, rfl, p, LP K, dx, _, rfl, upd_same, T.cls_LotPlace, T.no_LotPlace_left, (by show 4 < 1000; decide), ?_⟩
    rw [upd_upd]
    have eow : (if decide (V.str lot.word = V.str "step") = true then (1 : Int) else 0) = (((if lot.word = "step" then 1 else 0 : Nat)) : Int) := by
      by_cases c : lot.word = "step"
      · rw [if_pos c, decide_eq_true (congrArg V.str c), if_pos rfl]
        rfl
      · rw [if_neg c, decide_eq_false (fun e => c (V.str.inj e)), if_neg Bool.false_ne_true]
        rfl
    refine gen_heap (fun H5 => H5 p = some (.ins (LP K) dx (pfs lot.word (first : Nat) pl ((if lot.word = "step" then 1 else 0 : Nat) : Int) ((if lot.word = "step" then 1 else 0 : Nat) : Int))) ∧ H5 pl = some (.lst []) ∧ Eff [p] H H5) ?_ (fun H5 ⟨h5p, h5l, e5⟩ => ?_)
    · refine ⟨?_, ?_, ?_⟩
      · rw [upd_same, eow]
        rfl
      · rw [upd_ne npp, upd_same]
      · exact (((Eff.refl (M := [p])).set (by simp)).put pl0).set (by simp)
    clear eow
    have hv5 : LotAt K H5 lot (.ref b) := At.keep (M := [p]) (imm_lot lot) e5 (Lists.one hp rfl) hv
    -- for part in lot_parts(lot)
    refine ⟨_, rfl, [], _, lot.data, rfl, hv5, isForm_lot lot, fun H6 a ps e6 hps hpd => ⟨a, rfl, ⟨_, hps⟩, ?_⟩⟩
    have hpl6 := LotAt.parts_of hpd
    have lps := hpl6.length
    refine for_tup (K := K) (a := a) (xs := ps) (fun i σ H7 => ∃ y3 xs Fs, σ = [some (.ref p), some (.ref b), some (.int (first : Nat)), y3] ∧ Eff [p] H H7 ∧ H7 p = some (.ins (LP K) dx (pfs lot.word (first : Nat) pl (((if lot.word = "step" then 1 else 0) + Lot.stepsL (lot.parts.take i) : Nat) : Int) ((if lot.word = "step" then 1 else 0 : Nat) : Int))) ∧ H7 pl = some (.lst xs) ∧ PlacesAt (LP K) noneDone H7 (lot.parts.take i) first xs Fs ∧ (∀ a ∈ Fs, H a = none ∧ a ≠ pl) ∧ SqT K H7 a ps ∧ LotsAt K H7 lot.parts ps) ?_ (fun i σ H7 _ ⟨_, _, _, _, _, _, _, _, _, h, _⟩ => h) ?_ ?_
    · refine ⟨none, [], [], rfl, e5.trans e6.nil, ?_, e6.at h5l (by simp), .nil, by simp, hps, hpl6⟩
      have q := e6.at h5p (by simp)
      simpa [Lot.stepsL] using q
    · rintro i x σ H7 hi ⟨y3, xs, Fs, rfl, e7, h7p, h7l, hP, hFs, hps7, hpl7⟩
      obtain ⟨part, hpt, hx⟩ := hpl7.get hi
      have hil := (List.getElem?_eq_some_iff.mp hi).1
      have hn : ¬ lot.word = "step" := by
        intro e
        cases lot with
        | step => simp [Lot.parts] at hpt
        | row l => exact word_rs e
        | both y z => exact word_bs e
      rw [if_neg hn, Nat.zero_add] at h7p
      have hnl := nodesL_len lot.parts
      have hnp := nodes_parts lot
      have lxs := hP.length
      rw [List.length_take] at lxs
      -- self.parts.append(LotPlace(part, first + self.many))
      refine ⟨_, rfl, p, LP K, dx, _, _, rfl, h7p, T.cls_LotPlace, T.no_LotPlace_parts, pfs_parts, .inl ⟨rfl, _, .inl (.inl h7l)⟩, _, rfl, _, rfl, _, rfl, p, LP K, dx, _, _, rfl, h7p, T.cls_LotPlace, T.no_LotPlace_many, pfs_many, _, _, rfl, rfl, fun x1 dx1 nx ndx ne => ?_⟩
      have n1l : pl ≠ x1 := ne_of_none h7l nx
      have n1p : p ≠ x1 := ne_of_none h7p nx
      have e8 : Eff [] H7 (upd (upd H7 dx1 (.own x1)) x1 (.ins (LP K) dx1 [])) := (Eff.refl.put ndx).put nx
      have h8l := e8.at h7l (by simp)
      have h8p := e8.at h7p (by simp)
      have free8 : ∀ a, (upd (upd H7 dx1 (.own x1)) x1 (.ins (LP K) dx1 [])) a = none → H7 a = none := fun a ha => e8.free ha (by simp)
      have h8x : (upd (upd H7 dx1 (.own x1)) x1 (.ins (LP K) dx1 [])) x1 = some (.ins (LP K) dx1 []) := upd_same
      refine ⟨x1, dx1, x, part, first + Lot.stepsL (lot.parts.take i), ?_, upd_same, hx.same e8, depth_part hd hpt, Nat.le_trans (nodes_part hpt) hz, fun H9 F e9 hP9 hF9 => ⟨rfl, ?_⟩⟩
      · rw [Int.natCast_add]
        rfl
      generalize (upd (upd H7 dx1 (.own x1)) x1 (.ins (LP K) dx1 [])) = H8 at e8 h8l h8p free8 h8x e9 hF9
      have h9l := e9.at h8l (by simpa using n1l)
      have h9p := e9.at h8p (by simpa using n1p)
      refine ⟨pl, xs, .ref x1, rfl, rfl, h9l, Nat.lt_of_lt_of_le (show xs.length < 1000001 by omega) (by decide), ?_⟩
      obtain ⟨dx2, pl2, h9x⟩ := hP9.ins
      have ee : Eff [x1, pl, p] H7 (upd H9 pl (.lst (xs ++ [.ref x1]))) := ((e8.nil.trans (e9.mono (by simp))).set (by simp))
      have e10 : Eff [pl, p] H9 (upd H9 pl (.lst (xs ++ [.ref x1]))) := Eff.refl.set (by simp)
      refine gen_heap (fun H10 => H10 p = some (.ins (LP K) dx (pfs lot.word (first : Nat) pl ((Lot.stepsL (lot.parts.take i) : Nat) : Int) ((0 : Nat) : Int))) ∧ H10 pl = some (.lst (xs ++ [.ref x1])) ∧ H10 x1 = some (.ins (LP K) dx2 (pfs part.word ((first + Lot.stepsL (lot.parts.take i) : Nat) : Int) pl2 (part.steps : Nat) (undone noneDone (first + Lot.stepsL (lot.parts.take i)) part.steps : Nat))) ∧ Eff [x1, pl, p] H7 H10 ∧ Eff [pl, p] H9 H10) ?_ (fun H10 ⟨h10p, h10l, h10x, e10a, e10b⟩ => ?_)
      · refine ⟨?_, upd_same, ?_, ee, e10⟩
        · rw [upd_ne (ne_of h9p h9l (by intro z; cases z))]; exact h9p
        · rw [upd_ne n1l.symm]; exact h9x
      -- self.many += self.parts[-1].many
      refine ⟨_, rfl, p, LP K, dx, _, _, rfl, h10p, T.cls_LotPlace, T.no_LotPlace_many, pfs_many, _, rfl, p, LP K, dx, _, _, rfl, h10p, T.cls_LotPlace, T.no_LotPlace_parts, pfs_parts, _, rfl, pl, _, -1, .ref x1, rfl, rfl, .inl (.inl h10l), atI_last _ _, x1, LP K, dx2, _, _, rfl, h10x, T.cls_LotPlace, T.no_LotPlace_many, pfs_many, _, _, rfl, rfl, dx, _, h10p, (by show 5 < 1000; decide), ?_⟩
      rw [put_many]
      have hF : ∀ a ∈ F, a ≠ pl ∧ a ≠ p ∧ H7 a = none := fun a ha => by
        rcases hF9 a ha with e | e
        · rw [e]
          exact ⟨n1l.symm, n1p.symm, nx⟩
        · exact ⟨fun z => by (rw [z, h8l] at e; cases e), fun z => by (rw [z, h8p] at e; cases e), free8 a e⟩
      have hF7 : ∀ a ∈ Fs, a ≠ x1 ∧ a ≠ p := fun a ha => by
        obtain ⟨o, ho⟩ := hP.there a ha
        exact ⟨ne_of_none ho nx, fun z => by (have q := (hFs a ha).1; rw [z, hp] at q; cases q)⟩
      refine ⟨some x, xs ++ [.ref x1], Fs ++ F, rfl, ?_, ?_, ?_, ?_, ?_, ?_, ?_⟩
      · intro b o hb0 nb
        have nbp : b ≠ p := by simpa using nb
        have q := e7 b o hb0 nb
        rw [upd_ne nbp]
        refine e10a b o q ?_
        simp only [List.mem_cons, List.not_mem_nil, or_false]
        rintro (z | z | z)
        · rw [z, nx] at q; cases q
        · rw [z, pl0] at hb0; cases hb0
        · exact nbp z
      · rw [upd_same, steps_take_succ hpt, if_neg hn, Nat.zero_add, Int.natCast_add]
      · rw [upd_ne (ne_of h10l h10p (by intro z; cases z))]
        exact h10l
      · have et : lot.parts.take (i + 1) = lot.parts.take i ++ [part] := by rw [List.take_add_one, hpt]; rfl
        rw [et]
        have e11 : Eff [x1, pl, p] H7 (upd H10 p (.ins (LP K) dx (pfs lot.word (first : Nat) pl ((Lot.stepsL (lot.parts.take i) : Nat) + (part.steps : Nat)) ((0 : Nat) : Int)))) := e10a.set (by simp)
        have e12 : Eff [pl, p] H9 (upd H10 p (.ins (LP K) dx (pfs lot.word (first : Nat) pl ((Lot.stepsL (lot.parts.take i) : Nat) + (part.steps : Nat)) ((0 : Nat) : Int)))) := e10b.set (by simp)
        refine PlacesAt.snoc (hP.eff e11 fun a ha => ?_) (hP9.eff e12 fun a ha => ?_) fun a ha hb => ?_
        · simp [(hF7 a ha).1, (hF7 a ha).2, (hFs a ha).2]
        · simp [(hF a ha).1, (hF a ha).2.1]
        · obtain ⟨o, ho⟩ := hP.there a ha
          rw [(hF a hb).2.2] at ho
          cases ho
      · intro a ha
        rcases List.mem_append.mp ha with ha | ha
        · exact hFs a ha
        · exact ⟨e7.free (hF a ha).2.2 (by simpa using (hF a ha).2.1), (hF a ha).1⟩
      · exact Eff.seqT (M := [x1, pl, p]) (e10a.set (by simp)) (.cons0 nx (.cons1 h7l rfl (.one h7p rfl))) hps7
      · exact hpl7.keep (M := [x1, pl, p]) (e10a.set (by simp)) (.cons0 nx (.cons1 h7l rfl (.one h7p rfl)))
    · rintro σ H7 ⟨y3, xs, Fs, rfl, e7, h7p, h7l, hP, hFs, hps7, hpl7⟩
      rw [lps, List.take_length] at h7p hP
      rw [← steps_parts] at h7p
      -- self.left = self.many
      refine ⟨_, rfl, p, LP K, dx, _, _, rfl, h7p, T.cls_LotPlace, T.no_LotPlace_many, pfs_many, _, rfl, p, LP K, dx, _, rfl, h7p, T.cls_LotPlace, T.no_LotPlace_left, (by show 5 < 1000; decide), ?_⟩
      rw [put_left]
      have npF : p ∉ Fs := fun z => by
        have q := (hFs p z).1
        rw [hp] at q
        cases q
      have nlF : pl ∉ Fs := fun z => (hFs pl z).2 rfl
      refine q _ (p :: pl :: Fs) (e7.set (by simp)) (.mk (dx := dx) ?_ ?_ (hP.eff (M := [p]) (Eff.refl.set (by simp)) fun a ha => ?_) npF nlF) fun a ha => ?_
      · rw [upd_same, undone_none]
      · rw [upd_ne (ne_of h7l h7p (by intro z; cases z))]
        exact h7l
      · intro z
        rw [List.mem_singleton.mp z] at ha
        exact npF ha
      · rcases List.mem_cons.mp ha with e | ha
        · exact .inl e
        · rcases List.mem_cons.mp ha with e | ha
          · exact .inr (by rw [e]; exact pl0)
          · exact .inr (hFs a ha).1
end
end HK
set_option Elab.async false
set_option linter.all false
set_option maxRecDepth 100000
set_option maxHeartbeats 400000
namespace HK
open PySem PySem.Spec PyProof.Rows L2
/-! ### tied -/
theorem hp_it {J : It} {n : Nat} {G : Hp → Prop} {Y : Nat → Hp → V → Hp → Prop} (w : Walk J n G Y) {H : Hp} {Qd : Hp → Prop} {body : V → Hp → (Hp → Prop) → Prop} (Pv : Nat → Hp → Prop) (h0 : Pv 0 H) (hG : ∀ i H, i ≤ n → Pv i H → G H)
    (hs : ∀ i x H H', i < n → Pv i H → Y i H x H' → body x H' (Pv (i + 1))) (hd : ∀ H, Pv n H → Qd H) :
    ∃ W : Nat → Nat → Hp → Prop, (∃ m, W 0 m H) ∧ ∀ i m H, W i m H →
      (J.stop i H ∧ Qd H) ∨ (J.go i H ∧ ∃ Nx : Hp → Prop, (∀ H', Nx H' → ∃ m', m' < m ∧ W (i + 1) m' H') ∧ ∀ x H', J.yld i H x H' → body x H' Nx) := by
  refine ⟨fun i m H => m = n - i ∧ i ≤ n ∧ Pv i H, ⟨n, by simp, Nat.zero_le _, h0⟩, ?_⟩
  rintro i m H ⟨rfl, hi, p⟩
  have q := hG i H hi p
  by_cases hlt : i < n
  · exact .inr ⟨w.goes i H hlt q, Pv (i + 1), fun H' p' => ⟨n - (i + 1), by omega, rfl, hlt, p'⟩, fun x H' y => hs i x H H' hlt p (w.yields i H x H' hlt q y)⟩
  · have e : i = n := by omega
    subst e
    exact .inl ⟨w.stops H q, hd H p⟩
def nats (l : List Nat) : List V := l.map fun n => V.int (n : Nat)
theorem nats_append (a b : List Nat) : nats (a ++ b) = nats a ++ nats b := List.map_append
theorem nats_len (a : List Nat) : (nats a).length = a.length := List.length_map _
/-- at B stand the lists bs, at each the numbers that g tells -/
structure Gr (H : Hp) (B : Addr) (bs : List Addr) (g : Nat → List Nat) : Prop where
  top : H B = some (.lst (bs.map V.ref))
  one : ∀ i a, bs[i]? = some a → H a = some (.lst (nats (g i)))
section
variable {K : PySem.W.Frag} {H H1 H0 : Hp} {B D : Addr} {bs M : List Addr} {g g' : Nat → List Nat} {e : Lot × Nat} {t : V} {es : List (Lot × Nat)} {ts : List V}
theorem Gr.live (h : Gr H B bs g) : ∀ a ∈ bs, H a ≠ none := fun a ha => by
  obtain ⟨i, hi, rfl⟩ := List.mem_iff_getElem.mp ha
  rw [h.one i _ (List.getElem?_eq_getElem hi)]
  simp
theorem Gr.lists (h : Gr H B bs g) : Lists bs H := fun a ha o ho => by
  obtain ⟨i, hi, rfl⟩ := List.mem_iff_getElem.mp ha
  rw [h.one i _ (List.getElem?_eq_getElem hi)] at ho
  cases ho
  rfl
theorem Gr.eff (h : Gr H B bs g) (e : Eff [] H H1) : Gr H1 B bs g := ⟨e _ _ h.top (by simp), fun i a q => e _ _ (h.one i a q) (by simp)⟩
theorem Gr.congr (h : Gr H B bs g) (q : ∀ i, g i = g' i) : Gr H B bs g' := by
  rw [show g' = g from funext fun i => (q i).symm]
  exact h
theorem Gr.put (h : Gr H B bs g) {o : HO} (n : D ≠ B) (m : D ∉ bs) : Gr (upd H D o) B bs g :=
  ⟨by rw [upd_ne n.symm]; exact h.top, fun i a q => by rw [upd_ne (fun z => m (by rw [← z]; exact List.mem_of_getElem? q))]; exact h.one i a q⟩
/-- one list of it is made longer -/
theorem Gr.ext (h : Gr H B bs g) (nd : bs.Nodup) (nB : B ∉ bs) {i : Nat} {a : Addr} (q : bs[i]? = some a) (l : List Nat) : Gr (upd H a (.lst (nats (g i) ++ nats l))) B bs (fun j => g j ++ if j = i then l else []) :=
  ⟨by rw [upd_ne (fun z => nB (by rw [z]; exact List.mem_of_getElem? q))]; exact h.top, fun j b qb => by
    by_cases c : j = i
    · subst c
      rw [q] at qb
      cases qb
      rw [upd_same, if_pos rfl, nats_append]
    · have ne : b ≠ a := fun z => by
        subst z
        exact c ((List.getElem?_inj (List.getElem?_eq_some_iff.mp qb).1 nd).mp (qb.trans q.symm))
      rw [upd_ne ne, if_neg c, List.append_nil]
      exact h.one j b qb⟩
/-- the ends of a lot: the first ones, the last ones, in new lists -/
def EndsAt (K : PySem.W.Frag) (H0 : Hp) (D : Addr) (H : Hp) (e : Lot × Nat) (t : V) : Prop :=
  ∃ a fa la, t = .ref a ∧ SqT K H a [.ref fa, .ref la] ∧ H fa = some (.lst (nats (firsts e.1 e.2))) ∧ H la = some (.lst (nats (lasts e.1 e.2))) ∧ H0 fa = none ∧ H0 la = none ∧ fa ≠ D ∧ la ≠ D
theorem EndsAt.eff (h : EndsAt K H0 D H e t) (ef : Eff M H H1) (hM : ∀ b ∈ M, b = D ∨ H0 b ≠ none) (li : Lists M H) : EndsAt K H0 D H1 e t := by
  obtain ⟨a, fa, la, e1, e2, e3, e4, e5, e6, e7, e8⟩ := h
  refine ⟨a, fa, la, e1, ef.seqT li e2, ef _ _ e3 fun z => ?_, ef _ _ e4 fun z => ?_, e5, e6, e7, e8⟩
  · rcases hM _ z with q | q
    · exact e7 q
    · exact q e5
  · rcases hM _ z with q | q
    · exact e8 q
    · exact q e6
def EndsL (K : PySem.W.Frag) (H0 : Hp) (D : Addr) (H : Hp) (es : List (Lot × Nat)) (ts : List V) : Prop := ts.length = es.length ∧ ∀ (i : Nat) (e : Lot × Nat) (t : V), es[i]? = some e → ts[i]? = some t → EndsAt K H0 D H e t
theorem EndsL.eff (h : EndsL K H0 D H es ts) (ef : Eff M H H1) (hM : ∀ b ∈ M, b = D ∨ H0 b ≠ none) (li : Lists M H) : EndsL K H0 D H1 es ts := ⟨h.1, fun i e t a b => (h.2 i e t a b).eff ef hM li⟩
theorem EndsL.snoc (h : EndsL K H0 D H es ts) (ht : EndsAt K H0 D H e t) : EndsL K H0 D H (es ++ [e]) (ts ++ [t]) := by
  refine ⟨by simp [h.1], fun i x y hx hy => ?_⟩
  have hl := h.1
  by_cases c : i < es.length
  · rw [List.getElem?_append_left c] at hx
    rw [List.getElem?_append_left (by omega)] at hy
    exact h.2 i x y hx hy
  · rw [List.getElem?_append_right (by omega)] at hx
    rw [List.getElem?_append_right (by omega)] at hy
    have z : i - es.length = 0 := by
      cases q : i - es.length with
      | zero => rfl
      | succ k => rw [q] at hx; simp at hx
    rw [z] at hx
    rw [hl, z] at hy
    cases hx
    cases hy
    exact ht
theorem EndsL.get (h : EndsL K H0 D H es ts) {i : Nat} (ht : ts[i]? = some t) : ∃ e, es[i]? = some e ∧ EndsAt K H0 D H e t := by
  have hi := (List.getElem?_eq_some_iff.mp ht).1
  rw [h.1] at hi
  exact ⟨es[i], List.getElem?_eq_getElem hi, h.2 i _ _ (List.getElem?_eq_getElem hi) ht⟩
end
theorem two_new {H : Hp} {a b : List V} {p1 p2 t : Addr} (n1 : H p1 = none) (n2 : (upd H p1 (.lst a)) p2 = none) (n3 : (upd (upd H p1 (.lst a)) p2 (.lst b)) t = none) :
    Eff [] H (upd (upd (upd H p1 (.lst a)) p2 (.lst b)) t (.tup [.ref p1, .ref p2])) ∧ (upd (upd (upd H p1 (.lst a)) p2 (.lst b)) t (.tup [.ref p1, .ref p2])) p1 = some (.lst a) ∧ (upd (upd (upd H p1 (.lst a)) p2 (.lst b)) t (.tup [.ref p1, .ref p2])) p2 = some (.lst b) ∧ H p2 = none := by
  have e1 : Eff [] H (upd H p1 (.lst a)) := Eff.refl.put n1
  have m2 := e1.free n2 (by simp)
  have e2 := e1.put (o := .lst b) m2
  have m3 := e2.free n3 (by simp)
  have a1 : (upd (upd H p1 (.lst a)) p2 (.lst b)) p1 = some (.lst a) := (upd_ne (ne_of_none upd_same n2)).trans upd_same
  have a2 : (upd (upd H p1 (.lst a)) p2 (.lst b)) p2 = some (.lst b) := upd_same
  exact ⟨e2.put m3, (upd_ne (ne_of_none a1 n3)).trans a1, (upd_ne (ne_of_none a2 n3)).trans a2, m2⟩
theorem ret_pair {ta tb : TE} {D : Ends} {σ : L2.St} {H : Hp} (h : ta σ H fun x H1 => tb σ H1 fun y H2 => [x, y].length ≤ sizeLine ∧ ∀ t, H2 t = none → D.rt (.ref t) (upd H2 t (.tup [x, y]))) : tRet (tTup (tCons ta (tCons tb tNil))) D σ H := h
theorem cut_one (ts : List V) : cutV ts (some 1) none = ts.drop 1 := by
  unfold cutV
  cases ts with
  | nil => rfl
  | cons x r =>
    have e0 : HT.sIx (x :: r).length 0 (some 1) = 1 := by
      unfold HT.sIx
      simp
    have e1 : HT.sIx (x :: r).length (x :: r).length none = (x :: r).length := by
      unfold HT.sIx
      simp
    rw [e0, e1]
    simp
theorem if_snoc {j x : Nat} {t F : List Nat} (h : x ∉ t) : (if j ∈ t then F else []) ++ (if j = x then F else []) = if j ∈ t ++ [x] then F else [] := by
  by_cases c : j = x
  · subst c
    rw [if_neg h, if_pos rfl, if_pos (by simp)]
    rfl
  · rw [if_neg c, List.append_nil]
    by_cases d : j ∈ t
    · rw [if_pos d, if_pos (by simp [d])]
    · rw [if_neg d, if_neg (by simp [d, c])]
theorem nodup_take {l : List Nat} (h : l.Nodup) {m x : Nat} (e : l[m]? = some x) : x ∉ l.take m := by
  have q : (l.take (m + 1)).Nodup := h.sublist (List.take_sublist _ _)
  rw [List.take_add_one, e] at q
  have z := (List.nodup_append.mp q).2.2
  exact fun c => z x c x (by simp) rfl
theorem flat_take {es : List (Lot × Nat)} (f : Lot × Nat → List Nat) {i : Nat} {e : Lot × Nat} (h : es[i]? = some e) : (es.take (i + 1)).flatMap f = (es.take i).flatMap f ++ f e := by
  rw [List.take_add_one, h]
  simp
theorem flat_take_le (es : List (Lot × Nat)) (f : Lot × Nat → List Nat) (n : Nat) : ((es.take n).flatMap f).length ≤ (es.flatMap f).length := by
  have q : es.flatMap f = (es.take n).flatMap f ++ (es.drop n).flatMap f := by rw [← List.flatMap_append, List.take_append_drop]
  rw [q, List.length_append]
  exact Nat.le_add_right _ _
/-- [one for end in ends for one in end[k]] -/
theorem lc_ends {K : PySem.W.Frag} {H0 H : Hp} {D0 D : Addr} {es : List (Lot × Nat)} {ts : List V} {k : Int} {f : Lot × Nat → List Nat} (hk : ∀ H e t, EndsAt K H0 D0 H e t → ∃ a fa la y, t = .ref a ∧ SqT K H a [.ref fa, .ref la] ∧ atI [V.ref fa, .ref la] k = some (.ref y) ∧ H y = some (.lst (nats (f e))))
    (hE : EndsL K H0 D0 H es ts) (hD : H D = some (.lst ts)) (hz : (es.flatMap f).length ≤ 1000000) {x0 x1 x3 x4 x5 x6 : Option V} {Q : VK} (q : ∀ H' L, Eff [] H H' → H' L = some (.lst (nats (es.flatMap f))) → H L = none → Q (.ref L) H') :
    tLc2 (iList K (tVar 2)) (gName 3) tYes (iList K (tOp (rIxT K) (tVar 3) (tC (.int k)))) (gName 5) tYes (tVar 5) [3, 5] [5] [x0, x1, some (.ref D), x3, x4, x5, x6] H Q := by
  refine ⟨_, rfl, D, rfl, ⟨ts, .inl (.inl hD)⟩, fun L nL => ?_⟩
  refine hp_it (walk_list (K := K) (a := D) (xs := ts)) (fun i H2 => H2 L = some (.lst (nats ((es.take i).flatMap f))) ∧ Eff [] H H2) ⟨upd_same, Eff.refl.put nL⟩ (fun i H2 _ h => .inl (.inl (h.2 _ _ hD (by simp)))) ?_ ?_
  · rintro i x H2 H2' hi ⟨hL, e2⟩ ⟨rfl, hx⟩
    obtain ⟨e, he, hEe⟩ := hE.get hx
    obtain ⟨a, fa, la, y, rfl, ha, hat, hy⟩ := hk _ _ _ hEe
    have nyL : y ≠ L := ne_of_none hy nL
    have hy2 := e2 _ _ hy (by simp)
    refine ⟨rfl, yes_go ⟨_, rfl, a, _, k, _, rfl, rfl, e2.seqT0 ha, hat, y, rfl, ⟨_, .inl (.inl hy2)⟩, ?_⟩⟩
    refine hp_it (walk_list (K := K) (a := y) (xs := nats (f e))) (fun j H3 => H3 L = some (.lst (nats ((es.take i).flatMap f ++ (f e).take j))) ∧ Eff [] H H3) ⟨by simpa using hL, e2⟩ (fun i H3 _ h => .inl (.inl (h.2 _ _ hy (by simp)))) ?_ ?_
    · rintro j z H3 H3' hj ⟨hL3, e3⟩ ⟨rfl, hz3⟩
      rw [nats_len] at hj
      have hzj : (f e)[j]? = some (f e)[j] := List.getElem?_eq_getElem hj
      have ez : z = .int ((f e)[j] : Nat) := by
        unfold nats at hz3
        rw [List.getElem?_map, hzj] at hz3
        exact (Option.some.inj hz3).symm
      subst ez
      have l1 := flat_take_le es f (i + 1)
      rw [flat_take f he, List.length_append] at l1
      refine ⟨rfl, yes_go ⟨_, rfl, _, hL3, ?_, ?_, e3.put nL⟩⟩
      · rw [nats_len, List.length_append, List.length_take]
        exact Nat.lt_of_lt_of_le (show _ < 1000001 by omega) (by decide)
      · rw [upd_same, List.take_add_one, hzj, ← List.append_assoc, nats_append _ (Option.toList _)]
        rfl
    · rintro H3 ⟨hL3, e3⟩
      rw [nats_len, List.take_length] at hL3
      exact ⟨by rw [flat_take f he]; exact hL3, e3⟩
  · rintro H2 ⟨hL, e2⟩
    rw [hE.1, List.take_length] at hL
    exact q H2 L e2 hL nL
section
variable {w : World} {K : PySem.W.Frag} {mg : Str → Option Value} {base : Heap}
def spTied (K : PySem.W.Frag) (n : Nat) : Sp := fun vs H Q _ => ∃ (p B : Addr) (l : Lot) (first : Nat) (F bs : List Addr) (g : Nat → List Nat), vs = [.ref p, .ref B] ∧ PlaceAt (LP K) noneDone H l first p F ∧ Gr H B bs g ∧ bs.Nodup ∧ B ∉ bs ∧ (∀ a ∈ F, a ∉ bs) ∧ first + l.steps ≤ bs.length ∧
  (∀ j, (g j).length + (adds l first j).length ≤ 1000000) ∧ l.depth ≤ n ∧ l.nodes ≤ 1000000 ∧
  ∀ H' t fa la, Eff bs H H' → Gr H' B bs (fun j => g j ++ adds l first j) → SqT K H' t [.ref fa, .ref la] → H' fa = some (.lst (nats (firsts l first))) → H' la = some (.lst (nats (lasts l first))) → H fa = none → H la = none → Q (.ref t) H'
theorem ok_tied (T : Tx K mg) : ∀ n, Cal PP w K mg base CX0 "tied" (n + 1) ["place", "behind"] (spTied K n)
  | 0 => T.ok_tied (fun vs H Q E h => by obtain ⟨p, B, l, f, F, bs, g, rfl, _⟩ := h; rfl) (fun cdv A outer s H vs Q E hr h => by
      obtain ⟨p, B, l, f, F, bs, g, rfl, _, _, _, _, _, _, _, hd, _⟩ := h
      have := depth_pos l
      omega)
  | n + 1 => by
    have c_tied := ok_tied T n
    refine T.ok_tied (fun vs H Q E h => ?_) (fun cdv A outer s H vs Q E hr h => ?_)
    · obtain ⟨p, B, l, f, F, bs, g, rfl, _⟩ := h
      rfl
    obtain ⟨p, B, lot, first, F, bs, g, rfl, hP, hG, nd, nB, hF, hs, hsz, hd, hz, q⟩ := h
    refine ⟨_, (pss_cons (ps_if (pt_cmpR op_eq (pe_fld (pv 0) rfl) pe_str (nomark _)) (pss_one (ps_ret (pe_tup (pa_cons (pe_lst (pa_cons (pe_fld (pv 0) rfl) pa_nil)) (pa_cons (pe_lst (pa_cons (pe_fld (pv 0) rfl) pa_nil)) pa_nil))))) pss_nil)
      (pss_cons (ps_setLc (i := 2) (own := [("part", 6)]) (g := (gName 6)) (tt := (tTest (tOp (rI0 fun i j => .bl (decide (j < i))) (tFld K (tVar 6) "many") (tC (.int 0))))) (by rfl) (sc_tied).nd rfl rfl (sw_true rfl rfl rfl (by decide +kernel)) (pi_list (pe_fld (pv 0) rfl)) (blkOk_by (own := [("part", 6)]) (N := nm_tied) (sc := sp_tied) (by decide +kernel)) (fun _ _ _ _ _ => (pg_name (i := 6) (sc_tied).nd rfl (by first | exact Or.inl rfl | exact Or.inr rfl))) (fun _ _ _ _ _ => pts_one (pt_cmpR op_gt (pe_fld (pv 6) rfl) pe_int (nomark _))) (fun _ _ _ _ _ => (pe_c c_tied (hr.mono (by first | decide | omega)) pass0 (pa_cons (pv 6) (pa_cons (pv 1) pa_nil)))))
      (pss_cons (ps_if (pt_cmpR (op_eqNil hr.units0) (pv 2) (pe_lst pa_nil) (nomark _)) (pss_one (ps_ret (pe_tup (pa_cons (pe_lst pa_nil) (pa_cons (pe_lst pa_nil) pa_nil))))) pss_nil)
      (pss_cons (ps_if (pt_cmpR op_eq (pe_fld (pv 0) rfl) pe_str (nomark _)) (pss_one (ps_ret (pe_tup (pa_cons (pe_lc2 (own := [("end", 3), ("one", 5)]) (vs1 := [5]) (g := (gName 3)) (g1 := (gName 5)) (wi1 := (iList K (tOp (rIxT K) (tVar 3) (tC (.int 0))))) (tt := tYes) (tt1 := tYes) (by rfl) (sc_tied).nd (pi_list (pv 2)) (blkOk_by (own := [("end", 3), ("one", 5)]) (N := nm_tied) (sc := sp_tied) (by decide +kernel)) (by decide) (fun _ _ _ _ _ => (pg_name (i := 3) (sc_tied).nd rfl (by first | exact Or.inl rfl | exact Or.inr rfl))) (fun _ _ _ _ _ => pts_nil) (fun _ _ _ _ _ => (pi_list (pe_ix ix_tup (pv 3) pe_int (fun _ _ => rfl)))) (fun _ _ _ _ _ => (pg_name (i := 5) (sc_tied).nd rfl (by first | exact Or.inl rfl | exact Or.inr rfl))) (fun _ _ _ _ _ => pts_nil) (fun _ _ _ _ _ => (pv 5))) (pa_cons (pe_lc2 (own := [("end", 3), ("one", 5)]) (vs1 := [5]) (g := (gName 3)) (g1 := (gName 5)) (wi1 := (iList K (tOp (rIxT K) (tVar 3) (tC (.int 1))))) (tt := tYes) (tt1 := tYes) (by rfl) (sc_tied).nd (pi_list (pv 2)) (blkOk_by (own := [("end", 3), ("one", 5)]) (N := nm_tied) (sc := sp_tied) (by decide +kernel)) (by decide) (fun _ _ _ _ _ => (pg_name (i := 3) (sc_tied).nd rfl (by first | exact Or.inl rfl | exact Or.inr rfl))) (fun _ _ _ _ _ => pts_nil) (fun _ _ _ _ _ => (pi_list (pe_ix ix_tup (pv 3) pe_int (fun _ _ => rfl)))) (fun _ _ _ _ _ => (pg_name (i := 5) (sc_tied).nd rfl (by first | exact Or.inl rfl | exact Or.inr rfl))) (fun _ _ _ _ _ => pts_nil) (fun _ _ _ _ _ => (pv 5))) pa_nil))))) pss_nil)
      (pss_cons (ps_for PassesOwn.never rfl (RZ.pi_zipA (by rfl) T.z_zip (pa_cons (pv 2) (pa_cons (pe_slice sl_list (pv 2) (po_some pe_int) po_none) pa_nil))) (pg_tup rfl (pgs_cons (pg_name (i := 3) (sc_tied).nd rfl (by first | exact Or.inl rfl | exact Or.inr rfl)) (pgs_cons (pg_name (i := 4) (sc_tied).nd rfl (by first | exact Or.inl rfl | exact Or.inr rfl)) pgs_nil))) (pss_one (ps_for PassesOwn.never rfl (pi_list (pe_ix ix_tup (pv 3) pe_int (fun _ _ => rfl))) (pg_name (i := 5) (sc_tied).nd rfl (by first | exact Or.inl rfl | exact Or.inr rfl)) (pss_one (ps_expr (pe_bm PySem.F.plainAttrs_list PySem.F.slot_list_extend PySem.F.type_list_extend mt_extend (pe_ix ix_list (pv 1) (pv 5) (fun _ _ => rfl)) (pa_cons (pe_ix ix_tup (pv 4) pe_int (fun _ _ => rfl)) pa_nil)))))))
      (pss_one (ps_ret (pe_tup (pa_cons (pe_ix ix_tup (pe_ix ix_list (pv 2) pe_int (fun _ _ => rfl)) pe_int (fun _ _ => rfl)) (pa_cons (pe_ix ix_tup (pe_ix ix_list (pv 2) (pe_un un_neg pe_int) (fun _ _ => rfl)) pe_int (fun _ _ => rfl)) pa_nil)))))))))), ?_⟩
    cases hP with
    | @mk _ _ _ dx pl xs Fs h1 h2 h3 h4 h5 =>
    -- if place.word == 'step'
    refine ⟨_, rfl, p, LP K, dx, _, _, rfl, h1, T.cls_LotPlace, T.no_LotPlace_word, pfs_word, rfl, _, rfl, ite2 (fun c => ?_) (fun c => ?_)⟩
    · have ew := V.str.inj (of_decide_eq_true c)
      have el : lot = .step := by
        cases lot with
        | step => rfl
        | row l => exact absurd ew word_rs
        | both x y => exact absurd ew word_bs
      subst el
      refine ⟨_, rfl, p, LP K, dx, _, _, rfl, h1, T.cls_LotPlace, T.no_LotPlace_first, pfs_first, small (by simp), fun p1 n1 => ?_⟩
      refine ⟨_, rfl, p, LP K, dx, _, _, rfl, (upd_ne (ne_of_none h1 n1)).trans h1, T.cls_LotPlace, T.no_LotPlace_first, pfs_first, small (by simp), fun p2 n2 => ⟨small (by simp), fun t nt => ?_⟩⟩
      obtain ⟨e3, a1, a2, m2⟩ := two_new n1 n2 nt
      exact q _ t p1 p2 e3.nil ((hG.eff e3).congr fun j => by simp [adds]) (.inl (.inl upd_same)) a1 a2 n1 m2
    -- ends = [tied(part, behind) for part in place.parts if part.many > 0]
    refine ⟨_, rfl, p, LP K, dx, _, _, rfl, h1, T.cls_LotPlace, T.no_LotPlace_parts, pfs_parts, pl, rfl, ⟨_, .inl (.inl h2)⟩, fun D nD => ?_⟩
    have hsp : lot.steps = Lot.stepsL lot.parts := by
      cases lot with
      | step => exact absurd (decide_eq_true rfl) c
      | row l => rfl
      | both x y => simp [Lot.steps, Lot.parts, Lot.stepsL]
    have hpl : ∀ {H2}, Eff bs H H2 → SqL K H2 pl xs := fun e => .inl (.inl (e _ _ h2 (hF pl (by simp))))
    have nDb : D ∉ bs := fun z => hG.live D z nD
    have nDB : D ≠ B := fun z => by (rw [z, hG.top] at nD; cases nD)
    have hM : ∀ b ∈ D :: bs, b = D ∨ H b ≠ none := fun b hb => (List.mem_cons.mp hb).elim .inl fun z => .inr (hG.live b z)
    refine lc_list (K := K) (a := pl) (xs := xs) (fun i H2 => ∃ ts, H2 D = some (.lst ts) ∧ EndsL K H D H2 (ne (lot.parts.take i) first) ts ∧ Gr H2 B bs (fun j => g j ++ addsP (lot.parts.take i) first j) ∧ Eff bs H H2) ?_ (fun i H2 _ ⟨_, _, _, _, e⟩ => hpl e) ?_ ?_
    · exact ⟨[], upd_same, ⟨rfl, fun i e t h => by simp [ne] at h⟩, (hG.put nDB nDb).congr fun j => by simp [addsP], Eff.refl.put nD⟩
    · rintro i x H2 hi ⟨ts, hD, hE, hG2, e2⟩
      obtain ⟨part, pp, Fx, hpt, rfl, hPx, hFx⟩ := (h3.eff e2 fun a ha => hF a (by simp [ha])).get hi
      obtain ⟨dx', pl', hpp⟩ := hPx.ins
      have et : lot.parts.take (i + 1) = lot.parts.take i ++ [part] := by rw [List.take_add_one, hpt]; rfl
      have hil := (List.getElem?_eq_some_iff.mp hpt).1
      have hst := steps_take_le lot.parts (i + 1)
      rw [steps_take_succ hpt, ← hsp] at hst
      have hnl := nodesL_len lot.parts
      have hnp := nodes_parts lot
      have lts := hE.1
      have lne := ne_len (lot.parts.take i) first
      rw [List.length_take] at lne
      refine ⟨rfl, _, rfl, pp, LP K, dx', _, _, rfl, hpp, T.cls_LotPlace, T.no_LotPlace_many, pfs_many, _, _, rfl, rfl, _, rfl, ite2 (fun cm => ?_) (fun cm => ?_)⟩
      · have hpos : 0 < part.steps := by (have := of_decide_eq_true cm; omega)
        have hsz2 : ∀ j, (g j ++ addsP (lot.parts.take i) first j).length + (adds part (first + Lot.stepsL (lot.parts.take i)) j).length ≤ 1000000 := fun j => by
          have a1 := hsz j
          have a2 := addsP_le lot first j
          have a4 : (addsP (lot.parts.take (i + 1)) first j).length ≤ (addsP lot.parts first j).length := by
            have a3 := addsP_append (lot.parts.take (i + 1)) (lot.parts.drop (i + 1)) first j
            rw [List.take_append_drop] at a3
            rw [a3, List.length_append]
            exact Nat.le_add_right _ _
          rw [et, addsP_append, List.length_append] at a4
          simp only [addsP, List.append_nil] at a4
          rw [List.length_append]
          omega
        refine ⟨_, rfl, _, rfl, pp, B, part, _, Fx, bs, _, rfl, hPx, hG2, nd, nB, fun a ha => hF a (by simp [hFx a ha]), by omega, hsz2, depth_part hd hpt, Nat.le_trans (nodes_part hpt) hz, fun H3 t fa la e3 hG3 ht hfa hla nfa nla => ⟨ts, e3 _ _ hD nDb, Nat.lt_of_lt_of_le (show ts.length < 1000001 by omega) (by decide), ts ++ [.ref t], upd_same, ?_, ?_, (e2.trans e3).put nD⟩⟩
        · rw [et, ne_snoc, if_neg (by omega)]
          have hE3 := hE.eff e3 (fun b hb => hM b (by simp [hb])) hG2.lists
          have z : EndsAt K H D H3 (part, first + Lot.stepsL (lot.parts.take i)) (.ref t) := ⟨t, fa, la, rfl, ht, hfa, hla, e2.free nfa (fun z => hG2.live fa z nfa), e2.free nla (fun z => hG2.live la z nla), (ne_of_none hD nfa).symm, (ne_of_none hD nla).symm⟩
          exact (hE3.snoc z).eff (M := [D]) (Eff.refl.set (by simp)) (fun b hb => .inl (by simpa using hb)) (Lists.one (e3 _ _ hD nDb) rfl)
        · exact (hG3.put nDB nDb).congr fun j => by rw [et, addsP_append, List.append_assoc]; simp [addsP]
      · have h0 : part.steps = 0 := by
          have hh : ¬ ((0 : Int) < (part.steps : Nat)) := fun z => cm (decide_eq_true z)
          omega
        exact ⟨ts, hD, by rw [et, ne_snoc, if_pos h0, List.append_nil]; exact hE, hG2.congr fun j => by rw [et, addsP_append]; simp [addsP, adds_nil (l := part) (f := first + Lot.stepsL (lot.parts.take i)) (i := j) (by omega)], e2⟩
    · rintro H2 ⟨ts, hD, hE, hG2, e2⟩
      rw [h3.length, List.take_length] at hE hG2
      -- if ends == []
      refine ⟨_, rfl, small (by simp), fun p0 n0 => ⟨D, p0, ts, rfl, rfl, .inl (.inl ((upd_ne (ne_of_none hD n0)).trans hD)), .inl (.inl upd_same), _, rfl, ite2 (fun ce => ?_) (fun ce => ?_)⟩⟩
      · have ets : ts = [] := List.isEmpty_iff.mp ce
        have ene : ne lot.parts first = [] := List.eq_nil_of_length_eq_zero (by (have := hE.1; rw [ets] at this; exact this.symm))
        have h0 : lot.steps = 0 := by (rw [hsp]; exact ne_nil ene)
        refine ⟨small (by simp), fun p1 n1 => ⟨small (by simp), fun p2 n2 => ⟨small (by simp), fun t nt => ?_⟩⟩⟩
        obtain ⟨e3, a1, a2, m2⟩ := two_new n1 n2 nt
        have eg : Eff [] H2 (upd H2 p0 (.lst [])) := Eff.refl.put n0
        have efr : ∀ a, (upd H2 p0 (.lst [])) a = none → H a = none := fun a ha => e2.free (eg.free ha (by simp)) fun z => hG2.live a z (eg.free ha (by simp))
        refine q _ t p1 p2 (e2.trans (eg.trans e3).nil) (((hG2.eff eg).eff e3).congr fun j => ?_) (.inl (.inl upd_same)) ?_ ?_ (efr _ n1) (efr _ m2)
        · rw [adds_nil (l := lot) (by omega), addsP_nil (by omega)]
        · rw [firsts_nil h0]; exact a1
        · rw [lasts_nil h0]; exact a2
      · have eg : Eff [] H2 (upd H2 p0 (.lst [])) := Eff.refl.put n0
        have hG3 := hG2.eff eg
        have hE3 := hE.eff eg (by simp) Lists.nil
        have e3 := e2.trans eg.nil
        have hD3 := eg _ _ hD (by simp)
        have live3 : ∀ a, (upd H2 p0 (.lst [])) a = none → H a = none := fun a ha => e2.free (eg.free ha (by simp)) fun z => hG2.live a z (eg.free ha (by simp))
        clear hG2 hE e2 hD
        generalize (upd H2 p0 (.lst [])) = H3 at *
        have nz : ne lot.parts first ≠ [] := fun z => ce (by (have := hE3.1; rw [z] at this; exact List.isEmpty_iff.mpr (List.eq_nil_of_length_eq_zero this)))
        -- if place.word == 'both'
        refine ⟨_, rfl, p, LP K, dx, _, _, rfl, e3 _ _ h1 (hF p (by simp)), T.cls_LotPlace, T.no_LotPlace_word, pfs_word, rfl, _, rfl, ite2 (fun cb => ?_) (fun cb => ?_)⟩
        · obtain ⟨x, y, el⟩ : ∃ x y, lot = .both x y := by
            have ew := V.str.inj (of_decide_eq_true cb)
            cases lot with
            | step => exact absurd (decide_eq_true rfl) c
            | row l => exact absurd ew word_rb
            | both x y => exact ⟨x, y, rfl⟩
          subst el
          have hst := steps_nodes (.both x y)
          have l1 := firsts_len (.both x y) first
          have l2 : (lasts (.both x y) first).length ≤ (Lot.both x y).steps := lasts_len _ _
          rw [firsts_both] at l1
          rw [lasts_both] at l2
          refine ret_pair (lc_ends (f := fun e => firsts e.1 e.2) (k := 0) (fun H e t ⟨a, fa, la, b1, b2, b3, b4, _⟩ => ⟨a, fa, la, fa, b1, b2, rfl, b3⟩) hE3 hD3 (by show (firstsE (ne [x, y] first)).length ≤ _; omega) fun H4 L1 e4 hL1 nL1 => ?_)
          refine lc_ends (f := fun e => lasts e.1 e.2) (k := 1) (fun H e t ⟨a, fa, la, b1, b2, b3, b4, _⟩ => ⟨a, fa, la, la, b1, b2, rfl, b4⟩) (hE3.eff e4 (by simp) Lists.nil) (e4 _ _ hD3 (by simp)) (by show (lastsE (ne [x, y] first)).length ≤ _; omega) fun H5 L2 e5 hL2 nL2 => ⟨small (by simp), fun t nt => ?_⟩
          have e6 : Eff [] H3 (upd H5 t (.tup [.ref L1, .ref L2])) := (e4.trans e5).put ((e4.trans e5).free nt (by simp))
          have hL1' := e5 _ _ hL1 (by simp)
          refine q _ t L1 L2 (e3.trans e6.nil) ((hG3.eff e6).congr fun j => by rw [adds_both]; rfl) (.inl (.inl upd_same)) ?_ ?_ (live3 _ nL1) (live3 _ (e4.free nL2 (by simp)))
          · rw [firsts_both, upd_ne (ne_of_none hL1' nt)]; exact hL1'
          · rw [lasts_both, upd_ne (ne_of_none hL2 nt)]; exact hL2
        · obtain ⟨l, el⟩ : ∃ l, lot = .row l := by
            cases lot with
            | step => exact absurd (decide_eq_true rfl) c
            | row l => exact ⟨l, rfl⟩
            | both x y => exact absurd (decide_eq_true rfl) cb
          subst el
          -- for end, other in zip(ends, ends[1:])
          refine ⟨_, rfl, _, rfl, 1, rfl, D, ts, rfl, .inl (.inl hD3), fun E1 nE1 => ?_⟩
          have ecut : cutV ts (some 1) none = ts.drop 1 := cut_one ts
          rw [ecut]
          have e4 : Eff [] H3 (upd H3 E1 (.lst (ts.drop 1))) := Eff.refl.put nE1
          have hD4 := e4 _ _ hD3 (by simp)
          have hE1 : (upd H3 E1 (.lst (ts.drop 1))) E1 = some (.lst (ts.drop 1)) := upd_same
          have nE1b : E1 ∉ bs := fun z => hG3.live E1 z nE1
          refine ⟨D, E1, ts, ts.drop 1, rfl, .inl ⟨.inl (.inl hD4), .inl (.inl hE1), ?_⟩⟩
          have hG4 := hG3.eff e4
          have hE4 := hE3.eff e4 (by simp) Lists.nil
          have e5 := e3.trans e4.nil
          have live4 : ∀ a, (upd H3 E1 (.lst (ts.drop 1))) a = none → H a = none := fun a ha => live3 a (e4.free ha (by simp))
          have lts := hE3.1
          clear e3 hG3 hE3 hD3
          generalize (upd H3 E1 (.lst (ts.drop 1))) = H4 at *
          have lmin : ts.length - 1 = min ts.length (ts.drop 1).length := by rw [List.length_drop]; omega
          refine for_it (walk_zip (K := K) (a := D) (b := E1) lmin) (fun i σ H5 => (∃ x3 x4 x5 x6, σ = [some (.ref p), some (.ref B), some (.ref D), x3, x4, x5, x6]) ∧ Eff bs H4 H5 ∧ Gr H5 B bs (fun j => g j ++ (addsP l first j ++ cross ((ne l first).take (i + 1)) j))) ?_ ?_ ?_ ?_
          · refine ⟨⟨_, _, _, _, rfl⟩, Eff.refl, hG4.congr fun j => ?_⟩
            have z : cross ((ne l first).take 1) j = [] := by
              cases ne l first with
              | nil => rfl
              | cons a r => rfl
            rw [z, List.append_nil]
            rfl
          · rintro i σ H5 hi ⟨_, e6, _⟩
            exact ⟨.inl (.inl (e6 _ _ hD4 nDb)), .inl (.inl (e6 _ _ hE1 nE1b))⟩
          · rintro i v σ H5 H5' hi ⟨⟨x3, x4, x5, x6, rfl⟩, e6, hG5⟩ ⟨T1, x, y, rfl, nT, rfl, hx, hy⟩
            have hx : ts[i]? = some x := hx
            have hy : (ts.drop 1)[i]? = some y := hy
            rw [List.getElem?_drop, Nat.add_comm] at hy
            obtain ⟨e, he, a, fa, la, rfl, ha, hfa, hla, nfa, nla, _, _⟩ := hE4.get hx
            obtain ⟨o, ho, a2, fa2, la2, rfl, ha2, hfa2, _, nfa2, _, _, _⟩ := hE4.get hy
            have he : (ne l first)[i]? = some e := he
            have ho : (ne l first)[i + 1]? = some o := ho
            have e7 : Eff bs H4 (upd H5 T1 (.tup [.ref a, .ref a2])) := e6.put (e6.free nT fun z => hG5.live T1 z nT)
            have hla7 := e7 _ _ hla fun z => hG.live la z nla
            have e56 : Eff [] H5 (upd H5 T1 (.tup [.ref a, .ref a2])) := Eff.refl.put nT
            refine ⟨T1, [.ref a, .ref a2], rfl, .inl (.inl upd_same), rfl, _, _, rfl, _, _, rfl, rfl, ?_⟩
            refine ⟨_, rfl, a, _, 1, _, rfl, rfl, e7.seqT hG4.lists ha, rfl, la, rfl, ⟨_, .inl (.inl hla7)⟩, ?_⟩
            refine for_list (K := K) (a := la) (xs := nats (lasts e.1 e.2)) (fun m σ H6 => (∃ x5 x6, σ = [some (.ref p), some (.ref B), some (.ref D), some (.ref a), some (.ref a2), x5, x6]) ∧ Eff bs H4 H6 ∧ Gr H6 B bs (fun j => g j ++ (addsP l first j ++ (cross ((ne l first).take (i + 1)) j ++ if j ∈ (lasts e.1 e.2).take m then firsts o.1 o.2 else [])))) ?_ (fun m σ H6 _ ⟨_, e8, _⟩ => .inl (.inl (e8 _ _ hla fun z => hG.live la z nla))) ?_ ?_
            · exact ⟨⟨_, _, rfl⟩, e7, (hG5.eff e56).congr fun j => by simp⟩
            · rintro m z σ H6 hz6 ⟨⟨x5, x6, rfl⟩, e8, hG6⟩
              have hm : m < (lasts e.1 e.2).length := by
                have := (List.getElem?_eq_some_iff.mp hz6).1
                rw [nats_len] at this
                exact this
              obtain ⟨one, hone⟩ : ∃ one, (lasts e.1 e.2)[m]? = some one := ⟨_, List.getElem?_eq_getElem hm⟩
              have ez : z = .int (one : Nat) := by
                unfold nats at hz6
                rw [List.getElem?_map, hone] at hz6
                exact (Option.some.inj hz6).symm
              subst ez
              have hmem := List.mem_of_getElem? hone
              have q1 := lasts_in _ _ _ hmem
              have q2 := ne_in l first e (List.mem_of_getElem? he)
              have hlt : one < bs.length := by
                have : (Lot.row l).steps = Lot.stepsL l := rfl
                omega
              have hb : bs[one]? = some bs[one] := List.getElem?_eq_getElem hlt
              generalize bs[one] = b at hb
              have nt := nodup_take (lasts_nodup e.1 e.2) hone
              have sz : (g one ++ (addsP l first one ++ (cross ((ne l first).take (i + 1)) one ++ if one ∈ (lasts e.1 e.2).take m then firsts o.1 o.2 else []))).length + (firsts o.1 o.2).length ≤ 1000000 := by
                have a1 := hsz one
                rw [adds, addsR_cross, List.length_append] at a1
                have a2 := cross_take_le (ne l first) (i + 2) one
                rw [cross_take he ho, if_pos hmem, List.length_append] at a2
                rw [if_neg nt, List.append_nil, List.length_append, List.length_append]
                omega
              refine ⟨_, rfl, _, rfl, B, bs.map V.ref, (one : Nat), .ref b, rfl, rfl, .inl (.inl hG6.top), atI_nat (by rw [List.getElem?_map, hb]; rfl), .inl ⟨rfl, _, .inl (.inl (hG6.one _ _ hb))⟩, _, rfl, a2, _, 0, _, rfl, rfl, e8.seqT hG4.lists ha2, rfl, b, fa2, _, _, rfl, rfl, hG6.one _ _ hb, e8 _ _ hfa2 (fun z => hG.live fa2 z nfa2), ?_, ⟨_, _, rfl⟩, e8.set (List.mem_of_getElem? hb), (hG6.ext nd nB hb _).congr fun j => ?_⟩
              · rw [nats_len, nats_len]
                exact Nat.le_trans sz (by decide)
              · have tk : (lasts e.1 e.2).take (m + 1) = (lasts e.1 e.2).take m ++ [one] := by (rw [List.take_add_one, hone]; rfl)
                rw [tk, List.append_assoc, List.append_assoc, List.append_assoc, if_snoc nt]
            · rintro σ H6 ⟨⟨x5, x6, rfl⟩, e8, hG6⟩
              refine ⟨⟨_, _, _, _, rfl⟩, e8, hG6.congr fun j => ?_⟩
              rw [nats_len, List.take_length, cross_take he ho]
          · rintro σ H5 ⟨⟨x3, x4, x5, x6, rfl⟩, e6, hG5⟩
            have lne : 0 < (ne l first).length := List.length_pos_iff.mpr nz
            have lts' : ts.length = (ne l first).length := lts
            obtain ⟨t0, ht0⟩ : ∃ t0, ts[0]? = some t0 := ⟨_, List.getElem?_eq_getElem (by omega)⟩
            obtain ⟨tl, htl⟩ : ∃ tl, ts[ts.length - 1]? = some tl := ⟨_, List.getElem?_eq_getElem (by omega)⟩
            obtain ⟨e0, he0, a, fa, la, rfl, ha, hfa, _, nfa, _⟩ := hE4.get ht0
            obtain ⟨el, hel, a2, fa2, la2, rfl, ha2, _, hla2, _, nla2, _⟩ := hE4.get htl
            have ets : ∃ ts', ts = ts' ++ [.ref a2] := by
              rw [← List.getLast?_eq_getElem?] at htl
              exact List.getLast?_eq_some_iff.mp htl
            obtain ⟨ts', ets⟩ := ets
            have el1 : firsts (.row l) first = firsts e0.1 e0.2 := by
              rw [firsts, firstsR_ne]
              have he0' : (ne l first)[0]? = some e0 := he0
              cases q : ne l first with
              | nil => exact absurd q nz
              | cons y r => rw [q] at he0'; cases he0'; rfl
            have el2 : lasts (.row l) first = lasts el.1 el.2 := by
              rw [lasts]
              refine lastsR_ne l first el ?_
              rw [List.getLast?_eq_getElem?, ← lts']
              exact hel
            refine ⟨_, rfl, D, ts, 0, _, rfl, rfl, .inl (.inl (e6 _ _ hD4 nDb)), atI_nat (j := 0) ht0, a, _, 0, _, rfl, rfl, e6.seqT hG4.lists ha, rfl, _, rfl, 1, rfl, D, ts, -1, _, rfl, rfl, .inl (.inl (e6 _ _ hD4 nDb)), by rw [ets]; exact atI_last _ _, a2, _, 1, _, rfl, rfl, e6.seqT hG4.lists ha2, rfl, small (by simp), fun t nt => ?_⟩
            have e7 : Eff [] H5 (upd H5 t (.tup [.ref fa, .ref la2])) := Eff.refl.put nt
            refine q _ t fa la2 (e5.trans (e6.trans e7.nil)) ((hG5.eff e7).congr fun j => ?_) (.inl (.inl upd_same)) ?_ ?_ nfa nla2
            · have en : ts.length - 1 + 1 = (ne l first).length := by omega
              rw [en, List.take_length, adds, addsR_cross]
            · rw [el1]
              exact e7 _ _ (e6 _ _ hfa fun z => hG.live fa z nfa) (by simp)
            · rw [el2]
              exact e7 _ _ (e6 _ _ hla2 fun z => hG.live la2 z nla2) (by simp)
end
end HK
set_option Elab.async false
set_option linter.all false
set_option maxRecDepth 100000
set_option maxHeartbeats 400000
namespace HK
open PySem PySem.Spec PyProof.Rows L2
/-- the heights, the levels of the steps of a lot, in their order -/
def heis (l : Lot) : List Nat := (List.range l.steps).map fun j => heiF l 0 0 j
def levs (l : Lot) : List Nat := (List.range l.steps).map fun j => levF l 0 0 j
section
variable {w : World} {K : PySem.W.Frag} {mg : Str → Option Value} {base : Heap}
def spEdges (K : PySem.W.Frag) : Sp := fun vs H Q _ => ∃ v l, vs = [v] ∧ LotAt K H l v ∧ l.depth ≤ 60 ∧ l.nodes ≤ 4000 ∧ l.steps ≤ 600 ∧
  ∀ H' B bs, Eff [] H H' → Gr H' B bs (fun j => adds l 0 j) → bs.length = l.steps → bs.Nodup → B ∉ bs → H B = none → (∀ b ∈ bs, H b = none) → Q (.ref B) H'
theorem ok_edges (T : Tx K mg) : Cal PP w K mg base CX0 "edges_of" 123 ["lot"] (spEdges K) := by
  have c_steps_in := ok_steps_in (w := w) (base := base) T
  have c_tied := ok_tied (w := w) (base := base) T 60
  have c_LotPlace := ok_place (w := w) (base := base) T 60
  refine T.ok_edges_of (fun vs H Q E h => ?_) (fun cdv A outer s H vs Q E hr h => ?_)
  · obtain ⟨v, l, rfl, _⟩ := h
    rfl
  obtain ⟨v, lot, rfl, hv, hd, hn, hs, q⟩ := h
  refine ⟨_, (pss_cons (ps_setLc (i := 1) (own := [("step", 2)]) (g := (gName 2)) (tt := tYes) (by rfl) (sc_edges_of).nd rfl rfl (sw_true rfl rfl rfl (by decide +kernel)) (pi_range1 (by rfl) T.z_range (pa_cons (pe_c c_steps_in (hr.mono (by first | decide | omega)) pass0 (pa_cons (pv 0) pa_nil)) pa_nil)) (blkOk_by (own := [("step", 2)]) (N := nm_edges_of) (sc := sp_edges_of) (by decide +kernel)) (fun _ _ _ _ _ => (pg_name (i := 2) (sc_edges_of).nd rfl (by first | exact Or.inl rfl | exact Or.inr rfl))) (fun _ _ _ _ _ => pts_nil) (fun _ _ _ _ _ => (pe_lst pa_nil)))
      (pss_cons (ps_expr (pe_c c_tied (hr.mono (by first | decide | omega)) pass0 (pa_cons (pe_mkc c_LotPlace (hr.mono (by first | decide | omega)) pass0 (pa_cons (pv 0) (pa_cons pe_int pa_nil))) (pa_cons (pv 1) pa_nil))))
      (pss_one (ps_ret (pv 1))))), ?_⟩
  -- behind = [[] for step in range(steps_in(lot))]
  refine ⟨_, rfl, _, lot, rfl, hv, by omega, fun H1 e1 => ⟨_, rfl, Int.le_trans (by decide) (Int.natCast_nonneg _), Int.lt_of_le_of_lt (Int.ofNat_le.mpr hs) (by decide), fun B nB => ?_⟩⟩
  refine lc_range (lo := 0) (fun i H2 => ∃ bs : List Addr, bs.length = i ∧ bs.Nodup ∧ B ∉ bs ∧ (∀ b ∈ bs, H b = none) ∧ Gr H2 B bs (fun _ => []) ∧ Eff [] H H2) ⟨[], rfl, .nil, by simp, by simp, ⟨upd_same, fun i a h => by simp at h⟩, e1.put (e1.free nB (by simp))⟩ ?_ ?_
  · rintro i H2 hi ⟨bs, rfl, nd, nBb, fr, hG, e2⟩
    refine ⟨rfl, yes_go ⟨small (by simp), fun b nb => ?_⟩⟩
    have nb0 := e2.free nb (by simp)
    have eb : Eff [] H2 (upd H2 b (.lst [])) := Eff.refl.put nb
    have hG2 := hG.eff eb
    have nbB : b ≠ B := (ne_of_none hG.top nb).symm
    have nbb : b ∉ bs := fun z => hG.live b z nb
    refine ⟨_, hG2.top, ?_, bs ++ [b], by simp, ?_, by simp [nBb, nbB.symm], ?_, ⟨?_, ?_⟩, (e2.put nb0).put (e1.free nB (by simp))⟩
    · rw [List.length_map]
      simp at hi
      exact Nat.lt_of_lt_of_le (show bs.length < 1000001 by omega) (by decide)
    · exact List.nodup_append.mpr ⟨nd, by simp, fun x hx y hy z => nbb (by simp at hy; rw [← hy, ← z]; exact hx)⟩
    · intro a ha
      rcases List.mem_append.mp ha with ha | ha
      · exact fr a ha
      · rw [List.mem_singleton.mp ha]
        exact nb0
    · rw [upd_same]
      simp
    · intro j a hja
      by_cases c : j < bs.length
      · rw [List.getElem?_append_left c] at hja
        have ha := hG2.one j a hja
        rw [upd_ne (fun z => nBb (by rw [← z]; exact List.mem_of_getElem? hja))]
        exact ha
      · rw [List.getElem?_append_right (by omega)] at hja
        have z : j - bs.length = 0 := by
          cases q : j - bs.length with
          | zero => rfl
          | succ k => rw [q] at hja; simp at hja
        rw [z] at hja
        obtain rfl : b = a := Option.some.inj hja
        rw [upd_ne nbB, upd_same]
        rfl
  · rintro H2 ⟨bs, lbs, nd, nBb, fr, hG, e2⟩
    rw [Int.toNat_natCast] at lbs
    have B0 := e1.free nB (by simp)
    -- tied(LotPlace(lot, 0), behind)
    have B0' : H2 B = some (.lst (bs.map V.ref)) := hG.top
    refine ⟨_, rfl, fun p dx np ndx npd => ?_⟩
    have ep : Eff [] H2 (upd (upd H2 dx (.own p)) p (.ins (LP K) dx [])) := (Eff.refl.put ndx).put np
    refine ⟨p, dx, v, lot, 0, rfl, upd_same, (hv.same e2).same ep, hd, by omega, fun H3 F e3 hP hF => ?_⟩
    have npb : p ∉ bs := fun z => hG.live p z np
    have e23 : Eff [] H2 H3 := fun b o hb _ => e3 b o (ep b o hb (by simp)) (by simpa using ne_of_none hb np)
    have hG3 := hG.eff e23
    refine ⟨rfl, _, rfl, p, B, lot, 0, F, bs, _, rfl, hP, hG3, nd, nBb, fun a ha => ?_, by omega, fun j => ?_, hd, by omega, fun H4 t fa la e4 hG4 _ _ _ _ _ => ?_⟩
    · rcases hF a ha with e | e
      · rw [e]; exact npb
      · exact fun z => hG.live a z (ep.free e (by simp))
    · have l1 := adds_len lot 0 j 600 hs
      have l2 : lot.depth * 600 ≤ 60 * 600 := Nat.mul_le_mul_right _ hd
      simp only [List.length_nil, Nat.zero_add]
      omega
    · refine ⟨_, rfl, q H4 B bs (fun b o hb _ => e4 b o ((e2.trans e23) b o hb (by simp)) fun z => ?_) (hG4.congr fun j => by simp) lbs nd nBb B0 fr⟩
      rw [fr b z] at hb
      cases hb
/-- a list of numbers about a lot, new -/
def spNew (K : PySem.W.Frag) (f : Lot → List Nat) : Sp := fun vs H Q _ => ∃ v l, vs = [v] ∧ LotAt K H l v ∧ l.depth ≤ 60 ∧ l.nodes ≤ 4000 ∧ l.steps ≤ 600 ∧
  ∀ H' a, Eff [] H H' → H' a = some (.lst (nats (f l))) → H a = none → Q (.ref a) H'
theorem nats_ints (l : List Nat) : nats l = (l.map fun n : Nat => (n : Int)).map V.int := by
  unfold nats
  rw [List.map_map]
  rfl
theorem nats_get {l : List Nat} {i : Nat} {v : V} (h : (nats l)[i]? = some v) : ∃ n, l[i]? = some n ∧ v = .int (n : Nat) := by
  unfold nats at h
  rw [List.getElem?_map] at h
  cases q : l[i]? with
  | none => rw [q] at h; cases h
  | some n => rw [q] at h; exact ⟨n, rfl, (Option.some.inj h).symm⟩
theorem nats_at {l : List Nat} {i n : Nat} (h : l[i]? = some n) : (nats l)[i]? = some (.int (n : Nat)) := by
  unfold nats
  rw [List.getElem?_map, h]
  rfl
theorem nats_set (l : List Nat) (i n : Nat) : (nats l).set i (.int (n : Nat)) = nats (l.set i n) := by
  unfold nats
  rw [List.map_set]
theorem ixN_of {n j : Nat} (h : j < n) : ixN n (j : Int) = some j := by
  unfold ixN
  rw [if_pos (by omega), if_pos (by omega)]
  simp
theorem ones (n : Nat) : (List.replicate n [V.int 1]).flatten = nats (List.replicate n 1) := by
  unfold nats
  rw [List.map_replicate]
  induction n with
  | zero => rfl
  | succ n ih => rw [List.replicate_succ, List.flatten_cons, ih, List.replicate_succ]; rfl
theorem ok_heights_in (T : Tx K mg) : Cal PP w K mg base CX0 "heights_in" 124 ["lot"] (spNew K heis) := by
  have c_edges_of := ok_edges (w := w) (base := base) T
  refine T.ok_heights_in (fun vs H Q E h => ?_) (fun cdv A outer s H vs Q E hr h => ?_)
  · obtain ⟨v, l, rfl, _⟩ := h
    rfl
  obtain ⟨v, lot, rfl, hv, hd, hn, hs, q⟩ := h
  refine ⟨_, (pss_cons (ps_set (i := 1) (sc_heights_in).nd rfl (by first | exact Or.inl rfl | exact Or.inr rfl) (pe_c c_edges_of (hr.mono (by first | decide | omega)) pass0 (pa_cons (pv 0) pa_nil)))
      (pss_cons (ps_set (i := 2) (sc_heights_in).nd rfl (by first | exact Or.inl rfl | exact Or.inr rfl) (pe_op op_rep (pe_lst (pa_cons pe_int pa_nil)) (pe_callB call_len_seq (by rfl) T.z_len (by decide +kernel) (pa_cons (pv 1) pa_nil))))
      (pss_cons (ps_for PassesOwn.never rfl (pi_range3 (by rfl) T.z_range (pa_cons (pe_op op_sub (pe_callB call_len_seq (by rfl) T.z_len (by decide +kernel) (pa_cons (pv 1) pa_nil)) pe_int) (pa_cons (pe_un un_neg pe_int) (pa_cons (pe_un un_neg pe_int) pa_nil)))) (pg_name (i := 3) (sc_heights_in).nd rfl (by first | exact Or.inl rfl | exact Or.inr rfl)) (pss_one (ps_asg (pe_op op_add pe_int (pe_callB (cr_max rfl) (by rfl) T.z_max (by decide +kernel) (pa_cons (pe_op op_cat (pe_lst (pa_cons pe_int pa_nil)) (pe_lc (own := [("one", 4)]) (g := (gName 4)) (te := (tOp (rIxL K) (tVar 2) (tVar 4))) (tt := tYes) (by rfl) (sc_heights_in).nd (pi_list (pe_ix ix_list (pv 1) (pv 3) (fun _ _ => rfl))) (blkOk_by (own := [("one", 4)]) (N := nm_heights_in) (sc := sp_heights_in) (by decide +kernel)) (fun _ _ _ _ _ => (pg_name (i := 4) (sc_heights_in).nd rfl (by first | exact Or.inl rfl | exact Or.inr rfl))) (fun _ _ _ _ _ => pts_nil) (fun _ _ _ _ _ => (pe_ix ix_list (pv 2) (pv 4) (fun _ _ => rfl))))) pa_nil))) (pg_sub (pv 2) (pv 3) set_list))))
      (pss_one (ps_ret (pv 2)))))), ?_⟩
  refine ⟨_, rfl, v, lot, rfl, hv, hd, hn, hs, fun H1 B bs e1 hG lbs nd nB B0 fr => ?_⟩
  -- found = [1] * len(behind)
  refine ⟨small (by simp), fun o1 no1 => ⟨_, rfl, B, _, rfl, .inl (.inl (.inl ((upd_ne (ne_of_none hG.top no1)).trans hG.top))), o1, _, _, rfl, rfl, upd_same, Int.le_trans (by decide) (Int.natCast_nonneg _), ?_, ?_, fun F nF => ?_⟩⟩
  · rw [List.length_map]
    exact Int.lt_of_le_of_lt (Int.ofNat_le.mpr (show bs.length ≤ 600 by omega)) (by decide)
  · rw [List.length_map, Int.toNat_natCast]
    exact small (by simp; omega)
  have lb : (bs.map V.ref).length = lot.steps := by rw [List.length_map]; exact lbs
  rw [ones, lb, Int.toNat_natCast]
  have eo : Eff [] H1 (upd H1 o1 (.lst [.int 1])) := Eff.refl.put no1
  have hG2 : Gr (upd (upd H1 o1 (.lst [.int 1])) F (.lst (nats (List.replicate lot.steps 1)))) B bs (fun j => adds lot 0 j) := (hG.eff eo).eff (Eff.refl.put nF)
  have e2 : Eff [] H (upd (upd H1 o1 (.lst [.int 1])) F (.lst (nats (List.replicate lot.steps 1)))) := (e1.trans eo).put ((e1.trans eo).free nF (by simp))
  have F0 : H F = none := (e1.trans eo).free nF (by simp)
  have hF2 : (upd (upd H1 o1 (.lst [.int 1])) F (.lst (nats (List.replicate lot.steps 1)))) F = some (.lst (nats (List.replicate lot.steps 1))) := upd_same
  have nFB : F ≠ B := (ne_of_none (eo _ _ hG.top (by simp)) nF).symm
  have nFb : F ∉ bs := fun z => (hG.eff eo).live F z nF
  generalize (upd (upd H1 o1 (.lst [.int 1])) F (.lst (nats (List.replicate lot.steps 1)))) = H2 at *
  clear eo nF hG no1
  -- for at in range(len(behind) - 1, -1, -1)
  have rg : RgC (((bs.map V.ref).length : Nat) - 1) (-1) (-1) lot.steps := by
    rw [lb]
    have q := RgC.neg (i := (lot.steps : Int) - 1) (j := -1) (Int.le_trans (show (-(2 ^ 62) : Int) ≤ -1 by decide) (by omega)) (Int.lt_of_le_of_lt (show (lot.steps : Int) - 1 ≤ 600 by omega) (by decide)) (by decide) (by decide)
    have e : ((lot.steps : Int) - 1 - -1).toNat = lot.steps := by omega
    rw [e] at q
    exact q
  refine ⟨_, rfl, B, bs.map V.ref, rfl, .inl (.inl (.inl hG2.top)), ((bs.map V.ref).length : Nat), 1, rfl, rfl, 1, rfl, 1, rfl, _, _, _, lot.steps, rfl, rg, ?_⟩
  refine for_it walk_rangeC (fun i σ H3 => ∃ fs x3 x4, σ = [some v, some (.ref B), some (.ref F), x3, x4] ∧ Eff [] H H3 ∧ Gr H3 B bs (fun j => adds lot 0 j) ∧ H3 F = some (.lst (nats fs)) ∧ fs.length = lot.steps ∧ ∀ j, lot.steps ≤ j + i → j < lot.steps → fs[j]? = some (heiF lot 0 0 j)) ?_ (fun _ _ _ _ _ => trivial) ?_ ?_
  · exact ⟨_, _, _, rfl, e2, hG2, hF2, by simp, fun j h1 h2 => by omega⟩
  · rintro i x σ H3 H3' hi ⟨fs, x3, x4, rfl, e3, hG3, hF3, lfs, hfs⟩ ⟨rfl, ex⟩
    obtain ⟨at', hat⟩ : ∃ at', at' + i + 1 = lot.steps := ⟨lot.steps - 1 - i, by omega⟩
    have ex' : x = .int (at' : Nat) := by
      have z : (lot.steps : Int) - 1 + (i : Int) * (-1) = (at' : Int) := by omega
      rw [ex, ← z]
      show V.int (((bs.map V.ref).length : Nat) - 1 + (i : Int) * (-1)) = _
      rw [lb]
    subst ex'
    clear ex
    have hlt : at' < bs.length := by omega
    have hb : bs[at']? = some bs[at'] := List.getElem?_eq_getElem hlt
    generalize bs[at'] = b at hb
    have hbl := hG3.one _ _ hb
    refine ⟨small (by simp), fun o2 no2 => ?_⟩
    have eo : Eff [] H3' (upd H3' o2 (.lst [.int 0])) := Eff.refl.put no2
    have ho2 : (upd H3' o2 (.lst [.int 0])) o2 = some (.lst [.int 0]) := upd_same
    have hG4 := hG3.eff eo
    have hF4 := eo _ _ hF3 (by simp)
    have e4 := e3.trans eo
    have nFo : F ≠ o2 := ne_of_none hF3 no2
    generalize (upd H3' o2 (.lst [.int 0])) = H4 at *
    refine ⟨_, rfl, _, rfl, B, bs.map V.ref, (at' : Nat), .ref b, rfl, rfl, .inl (.inl hG4.top), atI_nat (by rw [List.getElem?_map, hb]; rfl), b, rfl, ⟨_, .inl (.inl (hG4.one _ _ hb))⟩, fun D nD => ?_⟩
    have adl : (adds lot 0 at').length ≤ 36000 := by
      have l1 := adds_len lot 0 at' 600 hs
      have l2 : lot.depth * 600 ≤ 60 * 600 := Nat.mul_le_mul_right _ hd
      omega
    refine lc_list (K := K) (a := b) (xs := nats (adds lot 0 at')) (fun m H5 => H5 D = some (.lst (nats (((adds lot 0 at').take m).map (heiF lot 0 0)))) ∧ Eff [] H4 H5) ⟨upd_same, Eff.refl.put nD⟩ (fun m H5 _ h => .inl (.inl (h.2 _ _ (hG4.one _ _ hb) (by simp)))) ?_ ?_
    · rintro m z H5 hz ⟨hD, e5⟩
      obtain ⟨one, hone, rfl⟩ := nats_get hz
      have hm := List.mem_of_getElem? hone
      have q1 := adds_in lot 0 at' one (Nat.zero_le _) (by omega) hm
      have hm2 := (List.getElem?_eq_some_iff.mp hone).1
      refine ⟨rfl, yes_go ⟨_, rfl, _, rfl, F, nats fs, (one : Nat), _, rfl, rfl, .inl (.inl (e5 _ _ hF4 (by simp))), atI_nat (nats_at (hfs one (by omega) (by omega))), _, hD, ?_, ?_, e5.put nD⟩⟩
      · rw [nats_len, List.length_map, List.length_take]
        exact Nat.lt_of_lt_of_le (show _ < 1000001 by omega) (by decide)
      · rw [upd_same, List.take_add_one, hone, List.map_append, nats_append]
        rfl
    · rintro H5 ⟨hD, e5⟩
      rw [nats_len, List.take_length] at hD
      refine ⟨o2, D, _, _, rfl, rfl, e5 _ _ ho2 (by simp), hD, ?_, fun o3 no3 => ?_⟩
      · rw [nats_len, List.length_map]
        exact Nat.le_trans (show _ ≤ 1000001 by simp; omega) (by decide)
      have em : [V.int 0] ++ nats ((adds lot 0 at').map (heiF lot 0 0)) = (((0 :: (adds lot 0 at').map (heiF lot 0 0)).map fun n : Nat => (n : Int)).map V.int) := by
        rw [← nats_ints]
        rfl
      rw [em]
      refine ⟨o3, _, rfl, .inl (.inl upd_same), by simp, fun m hm hle => ?_⟩
      obtain ⟨k, hk, rfl⟩ := List.mem_map.mp hm
      have hk2 := hei_max lot (by omega) hk fun y hy => Int.ofNat_le.mp (hle y (List.mem_map.mpr ⟨y, hy, rfl⟩))
      have e6 : Eff [] H4 (upd H5 o3 (.lst (((0 :: (adds lot 0 at').map (heiF lot 0 0)).map fun n : Nat => (n : Int)).map V.int))) := e5.put (e5.free no3 (by simp))
      refine ⟨1, k, rfl, rfl, _, rfl, _, rfl, F, nats fs, (at' : Nat), at', rfl, rfl, e6 _ _ hF4 (by simp), ixN_of (by rw [nats_len]; omega), ?_⟩
      have ek : (1 : Int) + (k : Nat) = (heiF lot 0 0 at' : Nat) := by omega
      have es : (nats fs).set at' (.int (1 + (k : Nat))) = nats (fs.set at' (heiF lot 0 0 at')) := by rw [ek, nats_set]
      have hG6 := hG4.eff e6
      refine ⟨fs.set at' (heiF lot 0 0 at'), _, _, rfl, ?_, hG6.put nFB nFb, upd_same.trans (congrArg (fun z => some (HO.lst z)) es), by rw [List.length_set]; exact lfs, fun j h1 h2 => ?_⟩
      · exact (e4.trans e6).put F0
      · by_cases c : j = at'
        · subst c
          rw [List.getElem?_set_self (by omega)]
        · rw [List.getElem?_set_ne (Ne.symm c)]
          exact hfs j (by omega) h2
  · rintro σ H3 ⟨fs, x3, x4, rfl, e3, hG3, hF3, lfs, hfs⟩
    refine ⟨_, rfl, q H3 F e3 ?_ F0⟩
    rw [hF3]
    have ef : fs = heis lot := by
      unfold heis
      apply List.ext_getElem (by simp [lfs])
      intro i h1 h2
      have := hfs i (by omega) (by omega)
      rw [List.getElem?_eq_getElem h1] at this
      rw [Option.some.inj this, List.getElem_map, List.getElem_range]
    rw [ef]
end
end HK
set_option Elab.async false
set_option linter.all false
set_option maxRecDepth 100000
set_option maxHeartbeats 400000
namespace HK
open PySem PySem.Spec PyProof.Rows L2
section
variable {w : World} {K : PySem.W.Frag} {mg : Str → Option Value} {base : Heap}
theorem ok_levels_in (T : Tx K mg) : Cal PP w K mg base CX0 "levels_in" 124 ["lot"] (spNew K levs) := by
  have c_edges_of := ok_edges (w := w) (base := base) T
  refine T.ok_levels_in (fun vs H Q E h => ?_) (fun cdv A outer s H vs Q E hr h => ?_)
  · obtain ⟨v, l, rfl, _⟩ := h
    rfl
  obtain ⟨v, lot, rfl, hv, hd, hn, hs, q⟩ := h
  refine ⟨_, (pss_cons (ps_set (i := 1) (sc_levels_in).nd rfl (by first | exact Or.inl rfl | exact Or.inr rfl) (pe_c c_edges_of (hr.mono (by first | decide | omega)) pass0 (pa_cons (pv 0) pa_nil)))
      (pss_cons (ps_set (i := 2) (sc_levels_in).nd rfl (by first | exact Or.inl rfl | exact Or.inr rfl) (pe_op op_rep (pe_lst (pa_cons pe_int pa_nil)) (pe_callB call_len_seq (by rfl) T.z_len (by decide +kernel) (pa_cons (pv 1) pa_nil))))
      (pss_cons (ps_for PassesOwn.never rfl (pi_enum (by rfl) T.z_enumerate (pa_cons (pv 1) pa_nil)) (pg_tup rfl (pgs_cons (pg_name (i := 3) (sc_levels_in).nd rfl (by first | exact Or.inl rfl | exact Or.inr rfl)) (pgs_cons (pg_name (i := 4) (sc_levels_in).nd rfl (by first | exact Or.inl rfl | exact Or.inr rfl)) pgs_nil))) (pss_one (ps_for PassesOwn.never rfl (pi_list (pv 4)) (pg_name (i := 5) (sc_levels_in).nd rfl (by first | exact Or.inl rfl | exact Or.inr rfl)) (pss_one (ps_asg (pe_callB (call_max2 rfl) (by rfl) T.z_max (by decide +kernel) (pa_cons (pe_ix ix_list (pv 2) (pv 5) (fun _ _ => rfl)) (pa_cons (pe_op op_add (pe_ix ix_list (pv 2) (pv 3) (fun _ _ => rfl)) pe_int) pa_nil))) (pg_sub (pv 2) (pv 5) set_list))))))
      (pss_one (ps_ret (pv 2)))))), ?_⟩
  refine ⟨_, rfl, v, lot, rfl, hv, hd, hn, hs, fun H1 B bs e1 hG lbs nd nB B0 fr => ?_⟩
  -- found = [1] * len(behind)
  refine ⟨small (by simp), fun o1 no1 => ⟨_, rfl, B, _, rfl, .inl (.inl (.inl ((upd_ne (ne_of_none hG.top no1)).trans hG.top))), o1, _, _, rfl, rfl, upd_same, Int.le_trans (by decide) (Int.natCast_nonneg _), ?_, ?_, fun F nF => ?_⟩⟩
  · rw [List.length_map]
    exact Int.lt_of_le_of_lt (Int.ofNat_le.mpr (show bs.length ≤ 600 by omega)) (by decide)
  · rw [List.length_map, Int.toNat_natCast]
    exact small (by simp; omega)
  have lb : (bs.map V.ref).length = lot.steps := by rw [List.length_map]; exact lbs
  rw [ones, lb, Int.toNat_natCast]
  have eo : Eff [] H1 (upd H1 o1 (.lst [.int 1])) := Eff.refl.put no1
  have hG2 : Gr (upd (upd H1 o1 (.lst [.int 1])) F (.lst (nats (List.replicate lot.steps 1)))) B bs (fun j => adds lot 0 j) := (hG.eff eo).eff (Eff.refl.put nF)
  have e2 : Eff [] H (upd (upd H1 o1 (.lst [.int 1])) F (.lst (nats (List.replicate lot.steps 1)))) := (e1.trans eo).put ((e1.trans eo).free nF (by simp))
  have F0 : H F = none := (e1.trans eo).free nF (by simp)
  have hF2 : (upd (upd H1 o1 (.lst [.int 1])) F (.lst (nats (List.replicate lot.steps 1)))) F = some (.lst (nats (List.replicate lot.steps 1))) := upd_same
  have nFB : F ≠ B := (ne_of_none (eo _ _ hG.top (by simp)) nF).symm
  have nFb : F ∉ bs := fun z => (hG.eff eo).live F z nF
  generalize (upd (upd H1 o1 (.lst [.int 1])) F (.lst (nats (List.replicate lot.steps 1)))) = H2 at *
  clear eo nF hG no1
  -- for at, some in enumerate(behind)
  refine ⟨_, rfl, B, bs.map V.ref, rfl, .inl (.inl hG2.top), ?_⟩
  refine for_it (walk_enum (K := K) (a := B) (xs := bs.map V.ref)) (fun i σ H3 => ∃ fs x3 x4 x5, σ = [some v, some (.ref B), some (.ref F), x3, x4, x5] ∧ Eff [] H H3 ∧ Gr H3 B bs (fun j => adds lot 0 j) ∧ H3 F = some (.lst (nats fs)) ∧ LevOk lot fs i 0) ?_ (fun i σ H3 _ ⟨_, _, _, _, _, _, h, _⟩ => .inl (.inl h.top)) ?_ ?_
  · exact ⟨_, _, _, _, rfl, e2, hG2, hF2, LevOk.start lot⟩
  · rintro i x σ H3 H3' hi ⟨fs, x3, x4, x5, rfl, e3, hG3, hF3, hL⟩ ⟨T1, y1, y2, rfl, nT, rfl, h1, h2⟩
    have hi : i < bs.length := by omega
    obtain rfl : V.int (i : Nat) = y1 := Option.some.inj h1
    have h2 : (bs.map V.ref)[i]? = some y2 := h2
    have hb : bs[i]? = some bs[i] := List.getElem?_eq_getElem hi
    generalize bs[i] = b at hb
    rw [List.getElem?_map, hb] at h2
    obtain rfl : V.ref b = y2 := Option.some.inj h2
    have eT : Eff [] H3 (upd H3 T1 (.tup [.int (i : Nat), .ref b])) := Eff.refl.put nT
    have hG4 := hG3.eff eT
    have hF4 := eT _ _ hF3 (by simp)
    have e4 := e3.trans eT
    refine ⟨T1, [.int (i : Nat), .ref b], rfl, .inl (.inl upd_same), rfl, _, _, rfl, _, _, rfl, rfl, ?_⟩
    generalize (upd H3 T1 (.tup [.int (i : Nat), .ref b])) = H4 at *
    have hbl := hG4.one _ _ hb
    refine ⟨_, rfl, b, rfl, ⟨_, .inl (.inl hbl)⟩, ?_⟩
    refine for_list (K := K) (a := b) (xs := nats (adds lot 0 i)) (fun m σ H5 => ∃ fs x5, σ = [some v, some (.ref B), some (.ref F), some (.int (i : Nat)), some (.ref b), x5] ∧ Eff [] H H5 ∧ Gr H5 B bs (fun j => adds lot 0 j) ∧ H5 F = some (.lst (nats fs)) ∧ LevOk lot fs i m) ⟨_, _, rfl, e4, hG4, hF4, hL⟩ (fun m σ H5 _ ⟨_, _, _, _, h, _⟩ => .inl (.inl (h.one _ _ hb))) ?_ ?_
    · rintro m z σ H5 hz ⟨fs, x5, rfl, e5, hG5, hF5, hL5⟩
      obtain ⟨one, hone, rfl⟩ := nats_get hz
      have hm := List.mem_of_getElem? hone
      have q1 := adds_in lot 0 i one (Nat.zero_le _) (by omega) hm
      have lf := hL5.len
      obtain ⟨a, ha⟩ : ∃ a, fs[one]? = some a := ⟨_, List.getElem?_eq_getElem (by omega)⟩
      obtain ⟨c, hc⟩ : ∃ c, fs[i]? = some c := ⟨_, List.getElem?_eq_getElem (by omega)⟩
      have L5 : SqL K H5 F (nats fs) := .inl (.inl hF5)
      have em : (if (c : Int) + 1 > (a : Int) then (c : Int) + 1 else (a : Int)) = ((max a (c + 1) : Nat) : Int) := by
        split <;> omega
      have es : (nats fs).set one (.int (if (c : Int) + 1 > (a : Int) then (c : Int) + 1 else (a : Int))) = nats (fs.set one (max a (c + 1))) := by rw [em, nats_set]
      refine ⟨_, rfl, _, rfl, F, nats fs, (one : Nat), _, rfl, rfl, L5, atI_nat (nats_at ha), _, rfl, _, rfl, F, nats fs, (i : Nat), _, rfl, rfl, L5, atI_nat (nats_at hc), (c : Nat), 1, rfl, rfl, (a : Nat), (c : Nat) + 1, rfl, ?_⟩
      refine ⟨_, rfl, _, rfl, F, nats fs, (one : Nat), one, rfl, rfl, hF5, ixN_of (by rw [nats_len]; omega), ?_⟩
      exact ⟨fs.set one (max a (c + 1)), _, rfl, e5.put F0, hG5.put nFB nFb, upd_same.trans (congrArg (fun z => some (HO.lst z)) es), hL5.set hone ha hc⟩
    · rintro σ H5 ⟨fs, x5, rfl, e5, hG5, hF5, hL5⟩
      rw [nats_len] at hL5
      exact ⟨fs, _, _, _, rfl, e5, hG5, hF5, hL5.next⟩
  · rintro σ H3 ⟨fs, x3, x4, x5, rfl, e3, hG3, hF3, hL⟩
    rw [lb] at hL
    refine ⟨_, rfl, q H3 F e3 ?_ F0⟩
    rw [hF3, hL.fin]
    rfl
/-- tuples of numbers -/
def postTup (K : PySem.W.Frag) (f : Lot → List Nat) : Lot → Hp → VK → Prop := fun l H Q => ∀ H' a, Eff [] H H' → SqT K H' a (nats (f l)) → Q (.ref a) H'
theorem ok_heights (T : Tx K mg) : Cal PP w K mg base (L2.CX PP w) "heights" 125 ["lot"] (spAsk K (postTup K heis)) := by
  have c_checked_lot := ok_checked_lot (w := w) (base := base) T
  have c_heights_in := ok_heights_in (w := w) (base := base) T
  refine T.okx_heights (fun vs H Q E h => ?_) (fun cdv A outer s H vs Q E hr h => ?_)
  · obtain ⟨v, rfl, _⟩ := h
    rfl
  obtain ⟨v, rfl, h⟩ := h
  refine ⟨_, (pss_cons (ps_expr (pe_c c_checked_lot (hr.mono (by first | decide | omega)) (passes_call (takes_of rfl rfl rfl rfl) fun _ _ _ _ h => h) (pa_cons (pv 0) (pa_cons pe_int pa_nil))))
      (pss_one (ps_ret (pe_callTy call_tuple_of (by rfl) T.z_tuple (by decide +kernel) (pa_cons (pe_c c_heights_in (hr.mono (by first | decide | omega)) pass0 (pa_cons (pv 0) pa_nil)) pa_nil))))), ?_⟩
  refine st_drop (ask_call rfl h fun l H1 e1 hl n1 n2 n3 p => ?_)
  exact ⟨_, rfl, v, l, rfl, hl, n2, n1, n3, fun H2 a e2 ha _ => ⟨a, _, rfl, .inl ⟨.inl (.inl ha), fun t nt => p _ t ((e1.trans e2).put ((e1.trans e2).free nt (by simp))) (.inl (.inl upd_same))⟩⟩⟩
theorem ok_levels (T : Tx K mg) : Cal PP w K mg base (L2.CX PP w) "levels" 125 ["lot"] (spAsk K (postTup K levs)) := by
  have c_checked_lot := ok_checked_lot (w := w) (base := base) T
  have c_levels_in := ok_levels_in (w := w) (base := base) T
  refine T.okx_levels (fun vs H Q E h => ?_) (fun cdv A outer s H vs Q E hr h => ?_)
  · obtain ⟨v, rfl, _⟩ := h
    rfl
  obtain ⟨v, rfl, h⟩ := h
  refine ⟨_, (pss_cons (ps_expr (pe_c c_checked_lot (hr.mono (by first | decide | omega)) (passes_call (takes_of rfl rfl rfl rfl) fun _ _ _ _ h => h) (pa_cons (pv 0) (pa_cons pe_int pa_nil))))
      (pss_one (ps_ret (pe_callTy call_tuple_of (by rfl) T.z_tuple (by decide +kernel) (pa_cons (pe_c c_levels_in (hr.mono (by first | decide | omega)) pass0 (pa_cons (pv 0) pa_nil)) pa_nil))))), ?_⟩
  refine st_drop (ask_call rfl h fun l H1 e1 hl n1 n2 n3 p => ?_)
  exact ⟨_, rfl, v, l, rfl, hl, n2, n1, n3, fun H2 a e2 ha _ => ⟨a, _, rfl, .inl ⟨.inl (.inl ha), fun t nt => p _ t ((e1.trans e2).put ((e1.trans e2).free nt (by simp))) (.inl (.inl upd_same))⟩⟩⟩
end
end HK
set_option Elab.async false
set_option linter.all false
set_option maxRecDepth 100000
set_option maxHeartbeats 400000
namespace HK
open PySem PySem.Spec PyProof.Rows L2
/-- the deal: a list at d, of a list of ints at l and an int -/
def DealAt (H : Hp) (d l : Addr) : Prop := ∃ (cs : List Int) (b : Int), H d = some (.lst [.ref l, .int b]) ∧ H l = some (.lst (cs.map V.int)) ∧ cs.length ≤ 48
theorem DealAt.lists {H : Hp} {d l : Addr} (h : DealAt H d l) : Lists [d, l] H := by
  obtain ⟨cs, b, h1, h2, _⟩ := h
  exact .cons1 h1 rfl (.one h2 rfl)
theorem DealAt.eff {H H' : Hp} {d l : Addr} (h : DealAt H d l) (e : Eff [] H H') : DealAt H' d l := by
  obtain ⟨cs, b, h1, h2, h3⟩ := h
  exact ⟨cs, b, e _ _ h1 (by simp), e _ _ h2 (by simp), h3⟩
theorem DealAt.ne {H : Hp} {d l : Addr} (h : DealAt H d l) : d ≠ l := by
  obtain ⟨cs, b, h1, h2, h3⟩ := h
  refine ne_of h1 h2 fun z => ?_
  have z := HO.lst.inj z
  cases cs <;> cases z
/-- a loop: Pv holds at each turn, Rv at the end -/
theorem while_at {c : TT} {tb : TS} {D : Ends} {σ : L2.St} {H : Hp} (Pv : Nat → L2.St → Hp → Prop) (Rv : L2.St → Hp → Prop) (h0 : ∃ n, Pv n σ H)
    (hs : ∀ (n : Nat) (σ : L2.St) (H : Hp) (nx : L2.St → Hp → Prop), (∀ σ H, Rv σ H → nx σ H) → Pv n σ H → c σ H fun b H1 => if b = true then ∃ N : L2.St → Hp → Prop, (∀ σ' H', N σ' H' → ∃ n', n' < n ∧ Pv n' σ' H') ∧ tb { D with nx := N, ct := N, bk := D.nx } σ H1 else nx σ H1)
    (hd : ∀ σ H, Rv σ H → D.nx σ H) : tWhile c tb D σ H := ⟨Pv, h0, fun n σ H p => hs n σ H D.nx hd p⟩
theorem snoc_cases {α : Type} (l : List α) : l = [] ∨ ∃ r x, l = r ++ [x] := by
  rcases List.eq_nil_or_concat l with h | ⟨r, x, h⟩
  · exact .inl h
  · exact .inr ⟨r, x, by rw [h, List.concat_eq_append]⟩
/-- deal[0] != [] -/
theorem ne_deal {K : PySem.W.Frag} {H : Hp} {d l : Addr} {cs : List Int} {b : V} {σ : L2.St} {Q : Bool → Hp → Prop} (hσ : σ[0]? = some (some (.ref d))) (h1 : H d = some (.lst [.ref l, b])) (h2 : H l = some (.lst (cs.map V.int)))
    (q : ∀ H', Eff [] H H' → H' d = some (.lst [.ref l, b]) → H' l = some (.lst (cs.map V.int)) → Q (!cs.isEmpty) H') : tTest (tOp (rNeNil K) (tOp (rIxL K) (tVar 0) (tC (.int 0))) (tLst tNil)) σ H Q := by
  refine ⟨_, hσ, d, _, 0, .ref l, rfl, rfl, .inl (.inl h1), rfl, small (by simp), fun p np => ⟨l, p, _, rfl, rfl, .inl (.inl ((upd_ne (ne_of_none h2 np)).trans h2)), .inl (.inl upd_same), _, rfl, ?_⟩⟩
  have e : Eff [] H (upd H p (.lst [])) := Eff.refl.put np
  have z : (cs.map V.int).isEmpty = cs.isEmpty := by cases cs <;> rfl
  rw [z]
  exact q _ e (e _ _ h1 (by simp)) (e _ _ h2 (by simp))
section
variable {w : World} {K : PySem.W.Frag} {mg : Str → Option Value} {base : Heap}
def spAny (K : PySem.W.Frag) : Sp := fun vs H Q _ => ∃ (d l : Addr) (m : Int), vs = [.ref d, .int m] ∧ DealAt H d l ∧ 0 < m ∧ m < 1073741824 ∧ ∀ H' k, Eff [d, l] H H' → DealAt H' d l → 0 ≤ k → k < m → Q (.int k) H'
theorem ok_any (T : Tx K mg) : Cal PP w K mg base CX0 "_law_any" 1 ["deal", "bound"] (spAny K) := by
  refine T.ok_law_any (fun vs H Q E h => ?_) (fun cdv A outer s H vs Q E hr h => ?_)
  · obtain ⟨d, l, m, rfl, _⟩ := h
    rfl
  obtain ⟨d, l, m, rfl, hD, m0, m1, q⟩ := h
  have ndl := hD.ne
  refine ⟨_, (pss_cons (ps_while PassesOwn.never (PW.pt (pw_and (pt_cmpR (op_neNil hr.units0) (pe_ix ix_list (pv 0) pe_int (fun _ _ => rfl)) (pe_lst pa_nil) (nomark _)) (pw_and1 (pt_cmpR op_eq (pe_ix ix_list (pe_ix ix_list (pv 0) pe_int (fun _ _ => rfl)) (pe_un un_neg pe_int) (fun _ _ => rfl)) pe_int (nomark _))))) (pss_one (ps_expr (pe_bm0 PySem.F.plainAttrs_list PySem.F.slot_list_pop PySem.F.type_list_pop mt_pop (pe_ix ix_list (pv 0) pe_int (fun _ _ => rfl))))))
      (pss_cons (ps_if (pt_cmpR (op_neNil hr.units0) (pe_ix ix_list (pv 0) pe_int (fun _ _ => rfl)) (pe_lst pa_nil) (nomark _)) (pss_cons (ps_set (i := 2) (sc_law_any).nd rfl (by first | exact Or.inl rfl | exact Or.inr rfl) (pe_callTy call_int1 (by rfl) T.z_int (by decide +kernel) (pa_cons (pe_bm0 PySem.F.plainAttrs_list PySem.F.slot_list_pop PySem.F.type_list_pop mt_pop (pe_ix ix_list (pv 0) pe_int (fun _ _ => rfl))) pa_nil)))
      (pss_cons (ps_expr (pe_bm PySem.F.plainAttrs_list PySem.F.slot_list_append PySem.F.type_list_append mt_append (pe_ix ix_list (pv 0) pe_int (fun _ _ => rfl)) (pa_cons (pe_op op_fdiv (pv 2) (pv 1)) pa_nil)))
      (pss_one (ps_ret (pe_op op_mod (pv 2) (pv 1)))))) pss_nil)
      (pss_cons (ps_asg (pe_op op_mod (pe_callTy call_int1 (by rfl) T.z_int (by decide +kernel) (pa_cons (pe_op op_add (pe_op op_mul (pe_ix ix_list (pv 0) pe_int (fun _ _ => rfl)) pe_int) pe_int) pa_nil)) pe_int) (pg_sub (pv 0) pe_int set_list))
      (pss_one (ps_ret (pe_op op_mod (pe_callTy call_int1 (by rfl) T.z_int (by decide +kernel) (pa_cons (pe_op op_fdiv (pe_ix ix_list (pv 0) pe_int (fun _ _ => rfl)) pe_int) pa_nil)) (pv 1))))))), ?_⟩
  obtain ⟨cs, b, h1, h2, h3⟩ := hD
  -- while deal[0] != [] and deal[0][-1] == 0
  refine while_at (fun n σ H1 => ∃ cs : List Int, n = cs.length ∧ σ = [some (.ref d), some (.int m), none] ∧ H1 d = some (.lst [.ref l, .int b]) ∧ H1 l = some (.lst (cs.map V.int)) ∧ cs.length ≤ 48 ∧ Eff [d, l] H H1)
    (fun σ H1 => ∃ cs : List Int, σ = [some (.ref d), some (.int m), none] ∧ H1 d = some (.lst [.ref l, .int b]) ∧ H1 l = some (.lst (cs.map V.int)) ∧ cs.length ≤ 48 ∧ Eff [d, l] H H1) ⟨_, cs, rfl, rfl, h1, h2, h3, Eff.refl⟩ ?_ ?_
  · rintro n σ H1 nx hnx ⟨cs, rfl, rfl, h1, h2, h3, e1⟩
    refine ne_deal rfl h1 h2 fun H2 e2 k1 k2 => ?_
    have e12 : Eff [d, l] H H2 := e1.trans e2.nil
    rcases snoc_cases cs with rfl | ⟨cs, c, rfl⟩
    · exact iteF (iteF (hnx _ _ ⟨[], rfl, k1, k2, h3, e12⟩))
    have k2' : H2 l = some (.lst (cs.map V.int ++ [V.int c])) := by rw [k2, List.map_append]; rfl
    have z : (!(cs ++ [c]).isEmpty) = true := by cases cs <;> rfl
    rw [z]
    refine iteT ⟨_, rfl, d, _, 0, .ref l, rfl, rfl, .inl (.inl k1), rfl, _, rfl, l, _, _, _, rfl, rfl, .inl (.inl k2'), atI_last _ _, rfl, _, rfl, ite2 (fun c0 => ?_) (fun c0 => hnx _ _ ⟨_, rfl, k1, k2, h3, e12⟩)⟩
    refine ⟨_, fun σ' H' z => z, ?_⟩
    refine ⟨_, rfl, d, _, 0, .ref l, rfl, rfl, .inl (.inl k1), rfl, .inl ⟨rfl, _, .inl (.inl k2')⟩, l, _, .int c, rfl, rfl, k2', by simp, ?_⟩
    rw [List.length_append] at h3
    refine ⟨cs.length, by simp, cs, rfl, rfl, (upd_ne ndl).trans k1, ?_, by omega, e12.set (by simp)⟩
    rw [upd_same, List.dropLast_concat]
  · rintro σ H1 ⟨cs, rfl, h1, h2, h3, e1⟩
    refine ne_deal rfl h1 h2 fun H2 e2 k1 k2 => ?_
    have e12 : Eff [d, l] H H2 := e1.trans e2.nil
    rcases snoc_cases cs with rfl | ⟨cs, c, rfl⟩
    · -- no cell is left
      refine iteF ⟨_, rfl, d, _, 1, .int b, rfl, rfl, .inl (.inl k1), rfl, b, 40693, rfl, rfl, .inr (by decide), _, _, rfl, rfl, .inl ⟨_, rfl, _, _, rfl, rfl, (by show (0 : Int) < 2147483647; decide), ?_⟩⟩
      refine ⟨_, rfl, d, _, 1, 1, rfl, rfl, k1, rfl, ?_⟩
      refine ⟨_, rfl, d, _, 1, _, rfl, rfl, .inl (.inl upd_same), rfl, _, 64, rfl, rfl, (by show (0 : Int) < 64 ∧ (64 : Int) < 1073741824; decide), .inl ⟨_, rfl, _, rfl, _, m, rfl, rfl, m0, ?_⟩⟩
      refine q _ _ (e12.set (by simp)) ⟨[], _, upd_same, (upd_ne ndl.symm).trans k2, h3⟩ (Int.emod_nonneg _ (by omega)) (Int.emod_lt_of_pos _ m0)
    · have k2' : H2 l = some (.lst (cs.map V.int ++ [V.int c])) := by rw [k2, List.map_append]; rfl
      have z : (!(cs ++ [c]).isEmpty) = true := by cases cs <;> rfl
      rw [z]
      have h3 : cs.length + 1 ≤ 48 := by (rw [List.length_append] at h3; exact h3)
      refine iteT ⟨_, rfl, d, _, 0, .ref l, rfl, rfl, .inl (.inl k1), rfl, .inl ⟨rfl, _, .inl (.inl k2')⟩, l, _, .int c, rfl, rfl, k2', by simp, .inl ⟨c, rfl, ?_⟩⟩
      rw [List.dropLast_concat]
      have e3 : Eff [d, l] H (upd H2 l (.lst (cs.map V.int))) := e12.set (by simp)
      have k3 : (upd H2 l (.lst (cs.map V.int))) d = some (.lst [.ref l, .int b]) := (upd_ne ndl).trans k1
      have k4 : (upd H2 l (.lst (cs.map V.int))) l = some (.lst (cs.map V.int)) := upd_same
      generalize (upd H2 l (.lst (cs.map V.int))) = H3 at *
      refine ⟨_, rfl, d, _, 0, .ref l, rfl, rfl, .inl (.inl k3), rfl, .inl ⟨rfl, _, .inl (.inl k4)⟩, _, rfl, _, rfl, c, m, rfl, rfl, ⟨m0, m1⟩, l, _, _, rfl, rfl, k4, ?_, ?_⟩
      · rw [List.length_map]
        exact Nat.lt_of_lt_of_le (show _ < 1000001 by omega) (by decide)
      refine ⟨_, rfl, _, rfl, c, m, rfl, rfl, m0, ?_⟩
      refine q _ _ (e3.set (by simp)) ⟨cs ++ [c / m], b, (upd_ne ndl).trans k3, ?_, by simp; omega⟩ (Int.emod_nonneg _ (by omega)) (Int.emod_lt_of_pos _ m0)
      rw [upd_same, List.map_append]
      rfl
end
end HK
set_option Elab.async false
set_option linter.all false
set_option maxRecDepth 100000
set_option maxHeartbeats 400000
namespace HK
open PySem PySem.Spec PyProof.Rows L2
section
variable {w : World} {K : PySem.W.Frag} {mg : Str → Option Value} {base : Heap}
def spOf (K : PySem.W.Frag) : Sp := fun vs H Q _ => ∃ (d l a : Addr) (xs : List V), vs = [.ref d, .ref a] ∧ DealAt H d l ∧ SqL K H a xs ∧ a ≠ d ∧ a ≠ l ∧ 0 < xs.length ∧ xs.length < 1000 ∧ ∀ H' v, Eff [d, l] H H' → DealAt H' d l → v ∈ xs → Q v H'
theorem ok_of (T : Tx K mg) : Cal PP w K mg base CX0 "_law_of" 2 ["deal", "some"] (spOf K) := by
  have c_law_any := ok_any (w := w) (base := base) T
  refine T.ok_law_of (fun vs H Q E h => ?_) (fun cdv A outer s H vs Q E hr h => ?_)
  · obtain ⟨d, l, a, xs, rfl, _⟩ := h
    rfl
  obtain ⟨d, l, a, xs, rfl, hD, ha, n1, n2, x0, x1, q⟩ := h
  refine ⟨_, (pss_one (ps_ret (pe_ix ix_list (pv 1) (pe_c c_law_any (hr.mono (by first | decide | omega)) pass0 (pa_cons (pv 0) (pa_cons (pe_callB call_len_seq (by rfl) T.z_len (by decide +kernel) (pa_cons (pv 1) pa_nil)) pa_nil))) (fun _ _ => rfl)))), ?_⟩
  refine ⟨_, rfl, _, rfl, _, rfl, a, xs, rfl, .inl ha, d, l, _, rfl, hD, by omega, by omega, fun H1 k e1 hD1 k0 k1 => ?_⟩
  obtain ⟨j, rfl⟩ : ∃ j : Nat, k = j := ⟨k.toNat, by omega⟩
  have hj : j < xs.length := by omega
  have ej : xs[j]? = some xs[j] := List.getElem?_eq_getElem hj
  exact ⟨a, xs, (j : Nat), _, rfl, rfl, e1.seqL (by simp [n1, n2]) ha, atI_nat ej, q _ _ e1 hD1 (List.mem_of_getElem? ej)⟩
/-- a lot drawn -/
def spSome (K : PySem.W.Frag) (n : Nat) : Sp := fun vs H Q _ => ∃ (d l : Addr) (m : Nat), vs = [.ref d, .int (m : Nat)] ∧ m < n ∧ DealAt H d l ∧ ∀ H' v lot, Eff [d, l] H H' → DealAt H' d l → LotAt K H' lot v → lot.depth ≤ m + 1 → lot.nodes ≤ 5 ^ m → Q v H'
theorem lot_step {H : Hp} {t : Addr} (h : SqT K H t [.str "step"]) : LotAt K H .step (.ref t) := ⟨t, _, rfl, h, _, _, rfl, rfl, rfl⟩
theorem lot_both {H : Hp} {t : Addr} {x y : Lot} {v u : V} (h : SqT K H t [.str "both", v, u]) (hv : LotAt K H x v) (hu : LotAt K H y u) : LotAt K H (.both x y) (.ref t) := ⟨t, _, rfl, h, _, _, rfl, rfl, _, _, rfl, hv, _, _, rfl, hu, rfl⟩
theorem lot_row {H : Hp} {t a : Addr} {l : List Lot} {xs : List V} (h : SqT K H t [.str "row", .ref a]) (ha : SqT K H a xs) (hl : LotsAt K H l xs) : LotAt K H (.row l) (.ref t) := ⟨t, _, rfl, h, _, _, rfl, rfl, _, _, rfl, ⟨a, _, rfl, ha, hl⟩, rfl⟩
theorem LotsAt.snoc1 {H : Hp} {l : List Lot} {vs : List V} {x : Lot} {v : V} (h : LotsAt K H l vs) (hv : LotAt K H x v) : LotsAt K H (l ++ [x]) (vs ++ [v]) := by
  have q := AtL.snoc h hv
  unfold LotsAt
  rw [Lot.dataL_eq] at q ⊢
  rw [List.map_append]
  exact q
theorem five (m : Nat) : 1 ≤ 5 ^ m := Nat.one_le_pow _ _ (by decide)
theorem five_succ (m : Nat) : 5 ^ (m + 1) = 5 * 5 ^ m := by rw [Nat.pow_succ, Nat.mul_comm]
theorem nodesL_le {l : List Lot} {n : Nat} (h : ∀ x ∈ l, x.nodes ≤ n) : Lot.nodesL l ≤ l.length * n := by
  induction l with
  | nil => simp [Lot.nodesL]
  | cons x r ih =>
    have h1 := h x (by simp)
    have h2 := ih fun y hy => h y (by simp [hy])
    rw [Lot.nodesL, List.length_cons, Nat.add_mul]
    omega
theorem ok_some (T : Tx K mg) : ∀ n, Cal PP w K mg base CX0 "_law_some_lot" (n + 3) ["deal", "deep"] (spSome K n)
  | 0 => T.ok_law_some_lot (fun vs H Q E h => by obtain ⟨d, l, m, rfl, _⟩ := h; rfl) (fun cdv A outer s H vs Q E hr h => by
      obtain ⟨d, l, m, rfl, hm, _⟩ := h
      omega)
  | n + 1 => by
    have c_law_any := ok_any (w := w) (base := base) T
    have c_law_of := ok_of (w := w) (base := base) T
    have c_law_some_lot := ok_some T n
    refine T.ok_law_some_lot (fun vs H Q E h => ?_) (fun cdv A outer s H vs Q E hr h => ?_)
    · obtain ⟨d, l, m, rfl, _⟩ := h
      rfl
    obtain ⟨d, l, m, rfl, hm, hD, q⟩ := h
    refine ⟨_, (pss_cons (ps_set (i := 2) (sc_law_some_lot).nd rfl (by first | exact Or.inl rfl | exact Or.inr rfl) (pe_c c_law_any (hr.mono (by first | decide | omega)) pass0 (pa_cons (pv 0) (pa_cons pe_int pa_nil))))
      (pss_cons (ps_if (PW.pt (pw_or (pt_cmpR op_eq (pv 1) pe_int (nomark _)) (pw_or1 (pt_cmpR op_lt (pv 2) pe_int (nomark _))))) (pss_one (ps_ret (pe_tup (pa_cons pe_str pa_nil)))) pss_nil)
      (pss_cons (ps_if (pt_cmpR op_lt (pv 2) pe_int (nomark _)) (pss_one (ps_ret (pe_tup (pa_cons pe_str (pa_cons (pe_c c_law_some_lot (hr.mono (by first | decide | omega)) pass0 (pa_cons (pv 0) (pa_cons (pe_op op_sub (pv 1) pe_int) pa_nil))) (pa_cons (pe_c c_law_some_lot (hr.mono (by first | decide | omega)) pass0 (pa_cons (pv 0) (pa_cons (pe_op op_sub (pv 1) pe_int) pa_nil))) pa_nil)))))) pss_nil)
      (pss_one (ps_ret (pe_tup (pa_cons pe_str (pa_cons (pe_callTy call_tuple_of (by rfl) T.z_tuple (by decide +kernel) (pa_cons (pe_lc (own := [("turn", 3)]) (g := (gName 3)) (tt := tYes) (by rfl) (sc_law_some_lot).nd (pi_range1 (by rfl) T.z_range (pa_cons (pe_c c_law_of (hr.mono (by first | decide | omega)) pass0 (pa_cons (pv 0) (pa_cons (pe_lst (pa_cons pe_int (pa_cons pe_int (pa_cons pe_int (pa_cons pe_int (pa_cons pe_int (pa_cons pe_int pa_nil))))))) pa_nil))) pa_nil)) (blkOk_by (own := [("turn", 3)]) (N := nm_law_some_lot) (sc := sp_law_some_lot) (by decide +kernel)) (fun _ _ _ _ _ => (pg_name (i := 3) (sc_law_some_lot).nd rfl (by first | exact Or.inl rfl | exact Or.inr rfl))) (fun _ _ _ _ _ => pts_nil) (fun _ _ _ _ _ => (pe_c c_law_some_lot (hr.mono (by first | decide | omega)) pass0 (pa_cons (pv 0) (pa_cons (pe_op op_sub (pv 1) pe_int) pa_nil))))) pa_nil)) pa_nil)))))))), ?_⟩
    -- form = _law_any(deal, 6)
    refine ⟨_, rfl, d, l, 6, rfl, hD, by decide, by decide, fun H1 k e1 hD1 k0 k1 => ?_⟩
    have stepOut : ∀ {Q' : VK}, Q' = Q → tRet (tTup (tCons (tC (.str "step")) tNil)) { nx := fun _ H' => Q' .non H', rt := Q' } [some (.ref d), some (.int (m : Nat)), some (.int k), none] H1 := by
      rintro Q' rfl
      refine ⟨small (by simp), fun t nt => ?_⟩
      have eT : Eff [] H1 (upd H1 t (.tup [.str "step"])) := Eff.refl.put nt
      exact q _ _ .step (e1.trans eT.nil) (hD1.eff eT) (lot_step (.inl (.inl upd_same))) (by simp [Lot.depth]) (by simpa [Lot.nodes] using five m)
    refine ⟨_, rfl, rfl, _, rfl, ite2 (fun c => ?_) (fun c => ⟨_, rfl, _, _, rfl, rfl, _, rfl, ite2 (fun c2 => stepOut rfl) (fun c2 => ?_)⟩)⟩
    · exact iteT (stepOut rfl)
    obtain ⟨m, rfl⟩ : ∃ m', m = m' + 1 := by
      cases m with
      | zero => exact absurd (decide_eq_true rfl) c
      | succ m => exact ⟨m, rfl⟩
    have em : ((m + 1 : Nat) : Int) - 1 = (m : Nat) := by omega
    refine ⟨_, rfl, _, _, rfl, rfl, _, rfl, ite2 (fun c3 => ?_) (fun c3 => ?_)⟩
    · -- both
      refine ⟨_, rfl, _, rfl, _, _, rfl, rfl, d, l, m, by (show [V.ref d, V.int (((m + 1 : Nat) : Int) - 1)] = _; rw [em]), by omega, hD1, fun H2 v1 lot1 e2 hD2 hl1 d1 z1 => ?_⟩
      refine ⟨_, rfl, _, rfl, _, _, rfl, rfl, d, l, m, by (show [V.ref d, V.int (((m + 1 : Nat) : Int) - 1)] = _; rw [em]), by omega, hD2, fun H3 v2 lot2 e3 hD3 hl2 d2 z2 => ?_⟩
      refine ⟨small (by simp), fun t nt => ?_⟩
      have eT : Eff [] H3 (upd H3 t (.tup [.str "both", v1, v2])) := Eff.refl.put nt
      refine q _ _ (.both lot1 lot2) (((e1.trans e2).trans e3).trans eT.nil) (hD3.eff eT) (lot_both (.inl (.inl upd_same)) ((hl1.keep e3 hD2.lists).same eT) (hl2.same eT)) ?_ ?_
      · rw [Lot.depth]; omega
      · have := five m
        rw [Lot.nodes, five_succ]; omega
    · -- row
      refine ⟨_, rfl, small (by simp), fun a na => ?_⟩
      have ea : Eff [] H1 (upd H1 a (.lst [.int 0, .int 1, .int 2, .int 2, .int 3, .int 4])) := Eff.refl.put na
      have hDa := hD1.eff ea
      have na1 : a ≠ d ∧ a ≠ l := by
        obtain ⟨cs, b, k1, k2, _⟩ := hD1
        exact ⟨(ne_of_none k1 na).symm, (ne_of_none k2 na).symm⟩
      refine ⟨d, l, a, _, rfl, hDa, .inl (.inl upd_same), na1.1, na1.2, by simp, by simp, fun H2 v e2 hD2 hv => ?_⟩
      obtain ⟨j, rfl, hj⟩ : ∃ j : Nat, v = .int j ∧ j ≤ 4 := by
        simp at hv
        rcases hv with h | h | h | h | h
        · exact ⟨0, h, by omega⟩
        · exact ⟨1, h, by omega⟩
        · exact ⟨2, h, by omega⟩
        · exact ⟨3, h, by omega⟩
        · exact ⟨4, h, by omega⟩
      have e02 : Eff [d, l] H H2 := (e1.trans ea.nil).trans e2
      refine ⟨_, rfl, Int.le_trans (by decide) (Int.natCast_nonneg _), Int.lt_of_le_of_lt (Int.ofNat_le.mpr hj) (by decide), fun D nD => ?_⟩
      have nDd : D ≠ d ∧ D ≠ l := by
        obtain ⟨cs, b, k1, k2, _⟩ := hD2
        exact ⟨(ne_of_none k1 nD).symm, (ne_of_none k2 nD).symm⟩
      have nDm : D ∉ [d, l] := by simp [nDd.1, nDd.2]
      have D0 : H D = none := e02.free nD nDm
      rw [Int.toNat_natCast]
      refine lc_range (lo := 0) (fun i H3 => ∃ vs ls, H3 D = some (.lst vs) ∧ LotsAt K H3 ls vs ∧ ls.length = i ∧ (∀ x ∈ ls, x.depth ≤ m + 1 ∧ x.nodes ≤ 5 ^ m) ∧ Eff [d, l] H H3 ∧ DealAt H3 d l) ?_ ?_ ?_
      · exact ⟨[], [], upd_same, rfl, rfl, by simp, e02.put D0, hD2.eff (Eff.refl.put nD)⟩
      · rintro i H3 hi ⟨vs, ls, h3, hl3, rfl, hx, e3, hD3⟩
        have lvs := hl3.length
        refine ⟨rfl, yes_go ⟨_, rfl, _, rfl, _, _, rfl, rfl, d, l, m, by (show [V.ref d, V.int (((m + 1 : Nat) : Int) - 1)] = _; rw [em]), by omega, hD3, fun H4 v1 lot1 e4 hD4 hl1 d1 z1 => ?_⟩⟩
        have h4 := e4.at h3 nDm
        have eD : Eff [D] H4 (upd H4 D (.lst (vs ++ [v1]))) := Eff.refl.set (by simp)
        have hl4 : LotsAt K H4 (ls ++ [lot1]) (vs ++ [v1]) := (hl3.keep e4 hD3.lists).snoc1 hl1
        refine ⟨vs, h4, Nat.lt_of_lt_of_le (show vs.length < 1000001 by omega) (by decide), vs ++ [v1], ls ++ [lot1], upd_same, hl4.keep eD (Lists.one h4 rfl), by simp, fun x hxm => ?_, (e3.trans e4).put D0, ?_⟩
        · rcases List.mem_append.mp hxm with z | z
          · exact hx x z
          · rw [List.mem_singleton.mp z]
            exact ⟨d1, z1⟩
        · obtain ⟨cs, b, k1, k2, k3⟩ := hD4
          exact ⟨cs, b, (upd_ne nDd.1.symm).trans k1, (upd_ne nDd.2.symm).trans k2, k3⟩
      · rintro H3 ⟨vs, ls, h3, hl3, lls, hx, e3, hD3⟩
        refine ⟨D, vs, rfl, .inl ⟨.inl (.inl h3), fun t nt => ⟨small (by simp), fun t2 nt2 => ?_⟩⟩⟩
        have eT : Eff [] H3 (upd H3 t (.tup vs)) := Eff.refl.put nt
        have eT2 : Eff [] (upd H3 t (.tup vs)) (upd (upd H3 t (.tup vs)) t2 (.tup [.str "row", .ref t])) := Eff.refl.put nt2
        have e5 := eT.trans eT2
        refine q _ _ (.row ls) (e3.trans e5.nil) (hD3.eff e5) (lot_row (.inl (.inl upd_same)) (.inl (.inl (eT2 _ _ upd_same (by simp)))) (hl3.same e5)) ?_ ?_
        · have := depthL_le (n := m + 1) fun x hx' => (hx x hx').1
          rw [Lot.depth]
          omega
        · have h1 := nodesL_le (n := 5 ^ m) fun x hx' => (hx x hx').2
          have h2 : ls.length * 5 ^ m ≤ 4 * 5 ^ m := Nat.mul_le_mul_right _ (by omega)
          have h3 := five m
          rw [Lot.nodes, five_succ]
          omega
end
end HK
set_option Elab.async false
set_option linter.all false
set_option maxRecDepth 100000
set_option maxHeartbeats 400000
namespace HK
open PySem PySem.Spec PyProof.Rows L2
theorem word_step {l : Lot} (h : decide (V.str l.word = V.str "step") = true) : l = .step := by
  have ew := V.str.inj (of_decide_eq_true h)
  cases l with
  | step => rfl
  | row l => exact absurd ew word_rs
  | both x y => exact absurd ew word_bs
theorem word_row {l : Lot} (h : decide (V.str l.word = V.str "row") = true) : ∃ r, l = .row r := by
  have ew := V.str.inj (of_decide_eq_true h)
  cases l with
  | step => exact absurd ew word_sr
  | row l => exact ⟨l, rfl⟩
  | both x y => exact absurd ew word_br
theorem word_both {l : Lot} (h : ¬ decide (V.str l.word = V.str "step") = true) (h2 : ¬ decide (V.str l.word = V.str "row") = true) : ∃ x y, l = .both x y := by
  cases l with
  | step => exact absurd (decide_eq_true rfl) h
  | row l => exact absurd (decide_eq_true rfl) h2
  | both x y => exact ⟨x, y, rfl⟩
theorem cut_oneT (x : V) (ts : List V) : cutV (x :: ts) (some 1) none = ts := by
  rw [cut_one]
  rfl
/-- what a comprehension asks of the walk over its iterable -/
def lcR (g : TG) (tt : TT) (te : TE) (vs : List Nat) (σ : L2.St) (Q : VK) : It → Hp → Prop := fun J H1 => ∀ D, H1 D = none → ∃ W : Nat → Nat → Hp → Prop, (∃ m, W 0 m (upd H1 D (.lst []))) ∧ ∀ i m H, W i m H →
  (J.stop i H ∧ Q (.ref D) H) ∨ (J.go i H ∧ ∃ Nx : Hp → Prop, (∀ H', Nx H' → ∃ m', m' < m ∧ W (i + 1) m' H') ∧ ∀ x H', J.yld i H x H' → g x (wipe σ vs) H' fun σ2 H2 => wipe σ2 vs = wipe σ vs ∧ tt σ2 H2 fun b H3 =>
    if b = true then te σ2 H3 fun y H4 => ∃ acc, H4 D = some (.lst acc) ∧ acc.length < sizeLine ∧ Nx (upd H4 D (.lst (acc ++ [y]))) else Nx H3)
theorem asg_lc {wi : TI} {g : TG} {tt : TT} {te : TE} {vs : List Nat} {i : Nat} {u : TS} {D : Ends} {σ : L2.St} {H : Hp} (h : wi σ H (lcR g tt te vs σ fun x H1 => u D (σ.set i (some x)) H1)) : tSeq (tAsg (tLc wi g tt te vs) (gName i)) u D σ H := h
theorem ret_lc {r : List V → Hp → VK → Prop} {wi : TI} {g : TG} {tt : TT} {te : TE} {vs : List Nat} {D : Ends} {σ : L2.St} {H : Hp} (h : wi σ H (lcR g tt te vs σ fun x H1 => r [x] H1 fun v H2 => D.rt v H2)) : tRet (tCB r (tCons (tLc wi g tt te vs) tNil)) D σ H := h
section
variable {w : World} {K : PySem.W.Frag} {mg : Str → Option Value} {base : Heap}
/-- lot[1] if lot[0] == 'row' else lot[1:] -/
theorem lot_iter {H : Hp} {lot : Lot} {v : V} {σ : L2.St} {R : It → Hp → Prop} (hσ : σ[0]? = some (some v)) (hv : LotAt K H lot v) (ns : ¬ decide (V.str lot.word = V.str "step") = true)
    (q : ∀ H' a ps, Eff [] H H' → SqT K H' a ps → LotsAt K H' lot.parts ps → R (Itt K a) H') :
    iTup K (tIf (tTest (tOp rEq (tOp (rIxT K) (tVar 0) (tC (.int 0))) (tC (.str "row")))) (tOp (rIxT K) (tVar 0) (tC (.int 1))) (tSl (rSlT K) (tVar 0) (tPart (tC (.int 1))) tNoPart)) σ H R := by
  obtain ⟨a, xs, rfl, ha, hl⟩ := At.tuple (show At K [] H (.tuple (match lot with | .step => [.str "step"] | .row l => [.str "row", .tuple (Lot.dataL l)] | .both a b => [.str "both", a.data, b.data])) v by cases lot <;> exact hv)
  have hw : ∃ r, xs = .str lot.word :: r := by
    cases lot <;> (obtain ⟨y, r, rfl, hy, _⟩ := AtL.cons hl; exact ⟨r, by (rw [At.str hy]; rfl)⟩)
  obtain ⟨r, rfl⟩ := hw
  refine ⟨_, hσ, a, _, 0, .str lot.word, rfl, rfl, ha, atI_nat (j := 0) rfl, rfl, _, rfl, ite2 (fun c => ?_) (fun c => ?_)⟩
  · obtain ⟨l, rfl⟩ := word_row c
    obtain ⟨_, _, e, _, hl⟩ := AtL.cons hl
    cases e
    obtain ⟨y, r2, rfl, hy, hr⟩ := AtL.cons hl
    obtain ⟨b, ys, rfl, hb, hys⟩ := At.tuple hy
    exact ⟨_, hσ, a, _, 1, _, rfl, rfl, ha, atI_nat (j := 1) rfl, b, rfl, ⟨_, hb⟩, q H b ys Eff.refl hb hys⟩
  · obtain ⟨x, y, rfl⟩ := word_both ns c
    obtain ⟨_, _, e, _, hl⟩ := AtL.cons hl
    cases e
    refine ⟨_, hσ, 1, rfl, a, _, rfl, ha, ?_, fun p np => ?_⟩
    · intro z
      have z := z.1
      obtain ⟨v1, r1, rfl, _, _⟩ := AtL.cons hl
      simp [HT.sIx] at z
    · rw [cut_oneT]
      have e : Eff [] H (upd H p (.tup r)) := Eff.refl.put np
      exact ⟨p, rfl, ⟨_, .inl (.inl upd_same)⟩, q _ p r e (.inl (.inl upd_same)) (AtL.new np hl)⟩
theorem steps_list : ∀ l : List Lot, Lot.stepsL l = (l.map Lot.steps).sum
  | [] => rfl
  | x :: r => by rw [Lot.stepsL, List.map_cons, List.sum_cons, steps_list r]
theorem ok_steps (T : Tx K mg) : ∀ n, Cal PP w K mg base CX0 "_law_steps" (n + 1) ["lot"] (spNum K Lot.steps n)
  | 0 => T.ok_law_steps (fun vs H Q E h => by obtain ⟨v, l, rfl, _⟩ := h; rfl) (fun cdv A outer s H vs Q E hr h => by
      obtain ⟨v, l, rfl, _, hd, _⟩ := h
      have := depth_pos l
      omega)
  | n + 1 => by
    have c_law_steps := ok_steps T n
    refine T.ok_law_steps (fun vs H Q E h => ?_) (fun cdv A outer s H vs Q E hr h => ?_)
    · obtain ⟨v, l, rfl, _⟩ := h
      rfl
    obtain ⟨v, lot, rfl, hv, hd, hz, q⟩ := h
    refine ⟨_, (pss_cons (ps_if (pt_cmpR op_eq (pe_ix ix_tup (pv 0) pe_int (fun _ _ => rfl)) pe_str (nomark _)) (pss_one (ps_ret pe_int)) pss_nil)
      (pss_one (ps_ret (pe_callB (cr_sum rfl) (by rfl) T.z_sum (by decide +kernel) (pa_cons (pe_lc (own := [("part", 1)]) (g := (gName 1)) (tt := tYes) (by rfl) (sc_law_steps).nd (pi_tup (pe_ifExp (pt_cmpR op_eq (pe_ix ix_tup (pv 0) pe_int (fun _ _ => rfl)) pe_str (nomark _)) (pe_ix ix_tup (pv 0) pe_int (fun _ _ => rfl)) (pe_slice sl_tup (pv 0) (po_some pe_int) po_none))) (blkOk_by (own := [("part", 1)]) (N := nm_law_steps) (sc := sp_law_steps) (by decide +kernel)) (fun _ _ _ _ _ => (pg_name (i := 1) (sc_law_steps).nd rfl (by first | exact Or.inl rfl | exact Or.inr rfl))) (fun _ _ _ _ _ => pts_nil) (fun _ _ _ _ _ => (pe_c c_law_steps (hr.mono (by first | decide | omega)) pass0 (pa_cons (pv 1) pa_nil)))) pa_nil))))), ?_⟩
    obtain ⟨b, r, rfl, hb⟩ := hv.tup
    refine ⟨_, rfl, b, _, _, _, rfl, rfl, hb, atI_nat (j := 0) rfl, rfl, _, rfl, ite2 (fun c => ?_) (fun c => ?_)⟩
    · rw [word_step c] at q
      exact q _ Eff.refl
    refine ret_lc (lot_iter rfl hv c fun H1 a ps e1 hps hpl D nD => ?_)
    have D0 : H D = none := e1.free nD (by simp)
    refine lc_tup (K := K) (a := a) (xs := ps) (fun i H2 => H2 D = some (.lst (numsV Lot.steps (lot.parts.take i))) ∧ Eff [] H H2 ∧ SqT K H2 a ps ∧ LotsAt K H2 lot.parts ps) ⟨upd_same, e1.put D0, SqT.new nD hps, hpl.same (Eff.refl.put nD)⟩ (fun i H2 _ h => h.2.2.1) ?_ ?_
    · rintro i x H2 hi ⟨hD, ef, hps2, hpl2⟩
      obtain ⟨part, hp, hx⟩ := hpl2.get hi
      have hil := (List.getElem?_eq_some_iff.mp hi).1
      have hlen := hpl2.length
      have hnl := nodesL_len lot.parts
      have hnp := nodes_parts lot
      refine ⟨rfl, yes_go ⟨_, rfl, x, part, rfl, hx, depth_part hd hp, Nat.le_trans (nodes_part hp) hz, fun H3 e3 => ?_⟩⟩
      have hD3 := e3.at hD (by simp)
      refine ⟨_, hD3, ?_, ?_, (ef.trans e3).put D0, SqT.put hD3 (e3.seqT0 hps2), (hpl2.same e3).keep (M := [D]) (Eff.refl.set (by simp)) (Lists.one hD3 rfl)⟩
      · unfold numsV
        rw [List.length_map, List.length_take]
        exact Nat.lt_of_lt_of_le (show min i lot.parts.length < 1000001 by omega) (by decide)
      · rw [upd_same, List.take_add_one, hp]
        unfold numsV
        rw [List.map_append]
        rfl
    · rintro H2 ⟨hD, ef, hps2, hpl2⟩
      rw [hpl2.length, List.take_length] at hD
      refine ⟨D, (lot.parts.map Lot.steps).map fun n : Nat => (n : Int), rfl, .inl (.inl (by rw [hD]; exact congrArg (fun z => some (HO.lst z)) (numsV_ints _ _))), ?_⟩
      rw [sum_cast, ← steps_list]
      have ep : Lot.stepsL lot.parts = lot.steps := by
        cases lot with
        | step => exact absurd (decide_eq_true rfl) c
        | row l => rfl
        | both x y => simp [Lot.parts, Lot.stepsL, Lot.steps]
      rw [ep]
      exact q _ ef
theorem ok_cut (T : Tx K mg) : ∀ n, Cal PP w K mg base CX0 "_law_cut_width" (n + 1) ["lot"] (spNum K Lot.width n)
  | 0 => T.ok_law_cut_width (fun vs H Q E h => by obtain ⟨v, l, rfl, _⟩ := h; rfl) (fun cdv A outer s H vs Q E hr h => by
      obtain ⟨v, l, rfl, _, hd, _⟩ := h
      have := depth_pos l
      omega)
  | n + 1 => by
    have c_law_cut_width := ok_cut T n
    refine T.ok_law_cut_width (fun vs H Q E h => ?_) (fun cdv A outer s H vs Q E hr h => ?_)
    · obtain ⟨v, l, rfl, _⟩ := h
      rfl
    obtain ⟨v, lot, rfl, hv, hd, hz, q⟩ := h
    refine ⟨_, (pss_cons (ps_if (pt_cmpR op_eq (pe_ix ix_tup (pv 0) pe_int (fun _ _ => rfl)) pe_str (nomark _)) (pss_one (ps_ret pe_int)) pss_nil)
      (pss_cons (ps_setLc (i := 1) (own := [("part", 2)]) (g := (gName 2)) (tt := tYes) (by rfl) (sc_law_cut_width).nd rfl rfl (sw_true rfl rfl rfl (by decide +kernel)) (pi_tup (pe_ifExp (pt_cmpR op_eq (pe_ix ix_tup (pv 0) pe_int (fun _ _ => rfl)) pe_str (nomark _)) (pe_ix ix_tup (pv 0) pe_int (fun _ _ => rfl)) (pe_slice sl_tup (pv 0) (po_some pe_int) po_none))) (blkOk_by (own := [("part", 2)]) (N := nm_law_cut_width) (sc := sp_law_cut_width) (by decide +kernel)) (fun _ _ _ _ _ => (pg_name (i := 2) (sc_law_cut_width).nd rfl (by first | exact Or.inl rfl | exact Or.inr rfl))) (fun _ _ _ _ _ => pts_nil) (fun _ _ _ _ _ => (pe_c c_law_cut_width (hr.mono (by first | decide | omega)) pass0 (pa_cons (pv 2) pa_nil))))
      (pss_one (ps_ret (pe_ifExp (pt_cmpR op_eq (pe_ix ix_tup (pv 0) pe_int (fun _ _ => rfl)) pe_str (nomark _)) (pe_callB (cr_sum rfl) (by rfl) T.z_sum (by decide +kernel) (pa_cons (pv 1) pa_nil)) (pe_callB (cr_max rfl) (by rfl) T.z_max (by decide +kernel) (pa_cons (pe_op op_cat (pe_lst (pa_cons pe_int pa_nil)) (pv 1)) pa_nil))))))), ?_⟩
    obtain ⟨b, r, rfl, hb⟩ := hv.tup
    refine ⟨_, rfl, b, _, _, _, rfl, rfl, hb, atI_nat (j := 0) rfl, rfl, _, rfl, ite2 (fun c => ?_) (fun c => ?_)⟩
    · rw [word_step c] at q
      exact q _ Eff.refl
    refine asg_lc (lot_iter rfl hv c fun H1 a ps e1 hps hpl D nD => ?_)
    have D0 : H D = none := e1.free nD (by simp)
    refine lc_tup (K := K) (a := a) (xs := ps) (fun i H2 => H2 D = some (.lst (numsV Lot.width (lot.parts.take i))) ∧ Eff [] H H2 ∧ SqT K H2 a ps ∧ LotsAt K H2 lot.parts ps) ⟨upd_same, e1.put D0, SqT.new nD hps, hpl.same (Eff.refl.put nD)⟩ (fun i H2 _ h => h.2.2.1) ?_ ?_
    · rintro i x H2 hi ⟨hD, ef, hps2, hpl2⟩
      obtain ⟨part, hp, hx⟩ := hpl2.get hi
      have hil := (List.getElem?_eq_some_iff.mp hi).1
      have hlen := hpl2.length
      have hnl := nodesL_len lot.parts
      have hnp := nodes_parts lot
      refine ⟨rfl, yes_go ⟨_, rfl, x, part, rfl, hx, depth_part hd hp, Nat.le_trans (nodes_part hp) hz, fun H3 e3 => ?_⟩⟩
      have hD3 := e3.at hD (by simp)
      refine ⟨_, hD3, ?_, ?_, (ef.trans e3).put D0, SqT.put hD3 (e3.seqT0 hps2), (hpl2.same e3).keep (M := [D]) (Eff.refl.set (by simp)) (Lists.one hD3 rfl)⟩
      · unfold numsV
        rw [List.length_map, List.length_take]
        exact Nat.lt_of_lt_of_le (show min i lot.parts.length < 1000001 by omega) (by decide)
      · rw [upd_same, List.take_add_one, hp]
        unfold numsV
        rw [List.map_append]
        rfl
    · rintro H2 ⟨hD, ef, hps2, hpl2⟩
      have hlen := hpl2.length
      have hnl := nodesL_len lot.parts
      have hnp := nodes_parts lot
      rw [hpl2.length, List.take_length] at hD
      have hb2 := ef.seqT0 hb
      refine ⟨_, rfl, b, _, _, _, rfl, rfl, hb2, atI_nat (j := 0) rfl, rfl, _, rfl, ite2 (fun c2 => ?_) (fun c2 => ?_)⟩
      · obtain ⟨x, y, rfl⟩ : ∃ x y, lot = .both x y := by
          have ew := V.str.inj (of_decide_eq_true c2)
          cases lot with
          | step => exact absurd (decide_eq_true rfl) c
          | row l => exact absurd ew word_rb
          | both x y => exact ⟨x, y, rfl⟩
        refine ⟨_, rfl, D, [(x.width : Int), (y.width : Int)], rfl, .inl (.inl hD), ?_⟩
        have em : ([(x.width : Int), (y.width : Int)]).sum = (((Lot.both x y).width : Nat) : Int) := by
          simp only [Lot.width, List.sum_cons, List.sum_nil]
          omega
        rw [em]
        exact q _ ef
      · obtain ⟨l, rfl⟩ : ∃ l, lot = .row l := by
          cases lot with
          | step => exact absurd (decide_eq_true rfl) c
          | row l => exact ⟨l, rfl⟩
          | both x y => exact absurd (decide_eq_true rfl) c2
        refine ⟨small (by simp), fun p1 n1 => ⟨_, rfl, p1, D, _, _, rfl, rfl, upd_same, by rw [upd_ne (ne_of_none hD n1)]; exact hD, ?_, fun p2 n2 => ?_⟩⟩
        · unfold numsV
          rw [List.length_map, List.length_singleton]
          have hnl' : l.length ≤ Lot.nodesL l := hnl
          exact Nat.le_trans (show 1 + l.length ≤ 1000001 by simp [Lot.parts] at hnp; omega) (by decide)
        have e4 : V.int 0 :: numsV Lot.width l = ((0 : Int) :: (l.map Lot.width).map fun n : Nat => (n : Int)).map V.int := by
          rw [List.map_cons, ← numsV_ints]
        refine ⟨p2, (0 : Int) :: (l.map Lot.width).map fun n : Nat => (n : Int), rfl, .inl (.inl ?_), by simp, fun m hm hle => ?_⟩
        · rw [upd_same, ← e4]
          rfl
        · have em : m = (((Lot.row l).width : Nat) : Int) := by
            simp only [Lot.width]
            rcases List.mem_cons.mp hm with e | hm
            · rcases widthL_mem l with e0 | ⟨x, hx, ex⟩
              · omega
              · have := hle x.width (List.mem_cons_of_mem _ (List.mem_map.mpr ⟨x.width, List.mem_map.mpr ⟨x, hx, rfl⟩, rfl⟩))
                omega
            · obtain ⟨k, hk, ek⟩ := List.mem_map.mp hm
              obtain ⟨y, hy, ey⟩ := List.mem_map.mp hk
              have h1 := widthL_ge hy
              rcases widthL_mem l with e0 | ⟨x, hx, ex⟩
              · omega
              · have := hle x.width (List.mem_cons_of_mem _ (List.mem_map.mpr ⟨x.width, List.mem_map.mpr ⟨x, hx, rfl⟩, rfl⟩))
                omega
          rw [em]
          exact q _ ((ef.put (ef.free n1 (by simp))).put ((ef.put (ef.free n1 (by simp))).free n2 (by simp)))
end
end HK
set_option Elab.async false
set_option linter.all false
set_option maxRecDepth 100000
set_option maxHeartbeats 400000
namespace HK
open PySem PySem.Spec PyProof.Rows L2
section
variable {w : World} {K : PySem.W.Frag} {mg : Str → Option Value} {base : Heap}
def spFew (K : PySem.W.Frag) : Sp := fun vs H Q _ => ∃ (d l : Addr) (m : Nat), vs = [.ref d, .int (m : Nat)] ∧ 4 ≤ m ∧ DealAt H d l ∧ ∀ H' v lot, Eff [d, l] H H' → DealAt H' d l → LotAt K H' lot v → lot.depth ≤ 5 → lot.nodes ≤ 625 → lot.steps ≤ m → Q v H'
theorem ok_few (T : Tx K mg) : Cal PP w K mg base CX0 "_law_lot_of_few" 9 ["deal", "most"] (spFew K) := by
  have c_law_some_lot := ok_some (w := w) (base := base) T 5
  have c_law_steps := ok_steps (w := w) (base := base) T 5
  refine T.ok_law_lot_of_few (fun vs H Q E h => ?_) (fun cdv A outer s H vs Q E hr h => ?_)
  · obtain ⟨d, l, m, rfl, _⟩ := h
    rfl
  obtain ⟨d, l, m, rfl, hm, hD, q⟩ := h
  refine ⟨_, (pss_cons (ps_for PassesOwn.never rfl (pi_range1 (by rfl) T.z_range (pa_cons pe_int pa_nil)) (pg_name (i := 2) (sc_law_lot_of_few).nd rfl (by first | exact Or.inl rfl | exact Or.inr rfl)) (pss_cons (ps_set (i := 3) (sc_law_lot_of_few).nd rfl (by first | exact Or.inl rfl | exact Or.inr rfl) (pe_c c_law_some_lot (hr.mono (by first | decide | omega)) pass0 (pa_cons (pv 0) (pa_cons pe_int pa_nil))))
      (pss_one (ps_if (pt_cmpR op_le (pe_c c_law_steps (hr.mono (by first | decide | omega)) pass0 (pa_cons (pv 3) pa_nil)) (pv 1) (nomark _)) (pss_one (ps_ret (pv 3))) pss_nil))))
      (pss_one (ps_ret (pe_tup (pa_cons pe_str (pa_cons (pe_tup (pa_cons (pe_tup (pa_cons pe_str pa_nil)) (pa_cons (pe_tup (pa_cons pe_str (pa_cons (pe_tup (pa_cons pe_str pa_nil)) (pa_cons (pe_tup (pa_cons pe_str (pa_cons (pe_tup (pa_cons (pe_tup (pa_cons pe_str pa_nil)) (pa_cons (pe_tup (pa_cons pe_str pa_nil)) pa_nil))) pa_nil))) pa_nil)))) pa_nil))) pa_nil)))))), ?_⟩
  refine ⟨_, rfl, by decide, by decide, ?_⟩
  refine for_it walk_range (fun i σ H1 => (∃ x2 x3, σ = [some (.ref d), some (.int (m : Nat)), x2, x3]) ∧ DealAt H1 d l ∧ Eff [d, l] H H1) ⟨⟨_, _, rfl⟩, hD, Eff.refl⟩ (fun _ _ _ _ _ => trivial) ?_ ?_
  · rintro i x σ H1 H1' hi ⟨⟨x2, x3, rfl⟩, hD1, e1⟩ ⟨rfl, rfl⟩
    refine ⟨_, rfl, d, l, 4, rfl, by decide, hD1, fun H2 v lot e2 hD2 hl d1 z1 => ?_⟩
    refine ⟨_, rfl, v, lot, rfl, hl, by omega, by (have : 5 ^ 4 = 625 := by decide); omega, fun H3 e3 => ?_⟩
    refine ⟨_, rfl, _, _, rfl, rfl, _, rfl, ite2 (fun c => ?_) (fun c => ?_)⟩
    · have c : ((lot.steps : Nat) : Int) ≤ (m : Nat) := of_decide_eq_true c
      exact ⟨_, rfl, q H3 v lot ((e1.trans e2).trans e3.nil) (hD2.eff e3) (hl.same e3) d1 (by (have : 5 ^ 4 = 625 := by decide); omega) (by omega)⟩
    · exact ⟨⟨_, _, rfl⟩, hD2.eff e3, (e1.trans e2).trans e3.nil⟩
  · rintro σ H1 ⟨⟨x2, x3, rfl⟩, hD1, e1⟩
    -- ('row', (('step',), ('both', ('step',), ('row', (('step',), ('step',))))))
    refine ⟨small (by simp), fun t1 n1 => ⟨small (by simp), fun t2 n2 => ⟨small (by simp), fun t3 n3 => ⟨small (by simp), fun t4 n4 => ⟨small (by simp), fun t5 n5 => ⟨small (by simp), fun t6 n6 => ⟨small (by simp), fun t7 n7 => ⟨small (by simp), fun t8 n8 => ⟨small (by simp), fun t9 n9 => ?_⟩⟩⟩⟩⟩⟩⟩⟩⟩
    have E1 := same_new (M := []) n1 (.tup [.str "step"])
    have E2 := same_new (M := []) n2 (.tup [.str "step"])
    have E3 := same_new (M := []) n3 (.tup [.str "step"])
    have E4 := same_new (M := []) n4 (.tup [.str "step"])
    have E5 := same_new (M := []) n5 (.tup [.ref t3, .ref t4])
    have E6 := same_new (M := []) n6 (.tup [.str "row", .ref t5])
    have E7 := same_new (M := []) n7 (.tup [.str "both", .ref t2, .ref t6])
    have E8 := same_new (M := []) n8 (.tup [.ref t1, .ref t7])
    have E9 := same_new (M := []) n9 (.tup [.str "row", .ref t8])
    have F9 := E9
    have F8 := E8.trans F9
    have F7 := E7.trans F8
    have F6 := E6.trans F7
    have F5 := E5.trans F6
    have F4 := E4.trans F5
    have F3 := E3.trans F4
    have F2 := E2.trans F3
    have F1 := E1.trans F2
    have s1 := F2.seqT0 (K := K) (SqT.of (upd_same (a := t1)))
    have s2 := F3.seqT0 (K := K) (SqT.of (upd_same (a := t2)))
    have s3 := F4.seqT0 (K := K) (SqT.of (upd_same (a := t3)))
    have s4 := F5.seqT0 (K := K) (SqT.of (upd_same (a := t4)))
    have s5 := F6.seqT0 (K := K) (SqT.of (upd_same (a := t5)))
    have s6 := F7.seqT0 (K := K) (SqT.of (upd_same (a := t6)))
    have s7 := F8.seqT0 (K := K) (SqT.of (upd_same (a := t7)))
    have s8 := F9.seqT0 (K := K) (SqT.of (upd_same (a := t8)))
    refine q _ _ (.row [.step, .both .step (.row [.step, .step])]) (e1.trans F1.nil) (hD1.eff F1) (lot_row (SqT.of upd_same) s8 ?_) (by decide) (by decide) (by simpa [Lot.steps, Lot.stepsL] using hm)
    have l3 : LotAt K _ .step (.ref t3) := lot_step s3
    have l4 : LotAt K _ .step (.ref t4) := lot_step s4
    have l6 : LotAt K _ (.row [.step, .step]) (.ref t6) := lot_row s6 s5 ⟨_, _, rfl, l3, _, _, rfl, l4, rfl⟩
    have l7 := lot_both s7 (lot_step s2) l6
    exact ⟨_, _, rfl, lot_step s1, _, _, rfl, l7, rfl⟩
end
end HK
set_option Elab.async false
set_option linter.all false
set_option maxRecDepth 100000
set_option maxHeartbeats 400000
namespace HK
open PySem PySem.Spec PyProof.Rows L2
theorem hu_of {k : Nat} {A : Around} (r : Room k A) : A.units + 1 < cLine := by
  have := r.un
  omega
/-- what a loop asks of the walk over its iterable -/
def forR (g : TG) (tb : TS) (D : Ends) (σ : L2.St) : It → Hp → Prop := fun J H1 => ∃ W : Nat → Nat → L2.St → Hp → Prop, (∃ m, W 0 m σ H1) ∧ ∀ i m σ H, W i m σ H →
  (J.stop i H ∧ D.nx σ H) ∨ (J.go i H ∧ ∃ N : L2.St → Hp → Prop, (∀ σ' H', N σ' H' → ∃ m', m' < m ∧ W (i + 1) m' σ' H') ∧ ∀ x H', J.yld i H x H' → g x σ H' fun σ2 H2 => tb { D with nx := N, ct := N, bk := D.nx } σ2 H2)
theorem seq_for {wi : TI} {g : TG} {tb u : TS} {D : Ends} {σ : L2.St} {H : Hp} (h : wi σ H (forR g tb { D with nx := u D } σ)) : tSeq (tFor wi g tb) u D σ H := h
/-- a dict from the numbers from f on to the lists bs -/
def ahK : Nat → List V → List (L2.Key × V)
  | _, [] => []
  | f, b :: r => (.inl (f : Nat), b) :: ahK (f + 1) r
theorem ahK_len : ∀ (f : Nat) (l : List V), (ahK f l).length = l.length
  | f, [] => rfl
  | f, b :: r => by rw [ahK, List.length_cons, List.length_cons, ahK_len]
theorem ahK_snoc : ∀ (f : Nat) (l : List V) (v : V), ahK f (l ++ [v]) = ahK f l ++ [(.inl ((f + l.length : Nat) : Int), v)]
  | f, [], v => by simp [ahK]
  | f, b :: r, v => by
    rw [List.cons_append, ahK, ahK, ahK_snoc, List.cons_append, List.length_cons]
    have e : f + 1 + r.length = f + (r.length + 1) := by omega
    rw [e]
theorem ahK_get : ∀ (f : Nat) (l : List V) (i : Nat), (ahK f l)[i]? = (l[i]?).map fun v => (.inl ((f + i : Nat) : Int), v)
  | f, [], i => by simp [ahK]
  | f, b :: r, 0 => by simp [ahK]
  | f, b :: r, i + 1 => by
    have e : f + 1 + i = f + (i + 1) := by omega
    rw [ahK, List.getElem?_cons_succ, List.getElem?_cons_succ, ahK_get, e]
theorem ahK_keys : ∀ (f : Nat) (l : List V), (ahK f l).map (·.1) = ((List.range' f l.length).map fun n : Nat => (n : Int)).map Sum.inl
  | f, [] => rfl
  | f, b :: r => by rw [ahK, List.map_cons, ahK_keys, List.length_cons, List.range'_succ]; rfl
theorem ahK_kV (f : Nat) (l : List V) : ((ahK f l).map fun kv => kV kv.1) = (List.range' f l.length).map fun n => V.int (n : Nat) := by
  have h := congrArg (List.map kV) (ahK_keys f l)
  rw [List.map_map, List.map_map, List.map_map] at h
  exact h
theorem ahK_low : ∀ (f : Nat) (l : List V) (j : Nat), j < f → valV (ahK f l) (.inl (j : Nat) : L2.Key) = none
  | f, [], j, _ => rfl
  | f, b :: r, j, h => by
    rw [ahK, valV_neg (fun z => by (have := Sum.inl.inj z; omega))]
    exact ahK_low (f + 1) r j (by omega)
theorem ahK_val : ∀ (f : Nat) (l : List V) (i : Nat), valV (ahK f l) (.inl ((f + i : Nat) : Int) : L2.Key) = l[i]?
  | f, [], i => by simp [ahK, valV]
  | f, b :: r, 0 => by rw [ahK]; exact valV_pos rfl
  | f, b :: r, i + 1 => by
    have e : f + 1 + i = f + (i + 1) := by omega
    rw [ahK, valV_neg (fun z => by (have := Sum.inl.inj z; omega)), List.getElem?_cons_succ, ← ahK_val (f + 1) r i, e]
theorem ahK_put (f : Nat) (l : List V) (v : V) : putK (ahK f l) (.inl ((f + l.length : Nat) : Int)) v = ahK f (l ++ [v]) := by
  rw [putK_new v, ahK_snoc]
  rw [ahK_val, List.getElem?_eq_none (Nat.le_refl _)]
/-- the lists bs hold the numbers that g tells, from f on -/
def AhL (H : Hp) (bs : List Addr) (f : Nat) (g : Nat → List Nat) : Prop := ∀ i b, bs[i]? = some b → H b = some (.lst (nats (g (f + i))))
theorem AhL.eff {H H' : Hp} {M bs : List Addr} {f : Nat} {g : Nat → List Nat} (h : AhL H bs f g) (e : Eff M H H') (n : ∀ b ∈ bs, b ∉ M) : AhL H' bs f g := fun i b q => e _ _ (h i b q) (n b (List.mem_of_getElem? q))
theorem AhL.put {H : Hp} {bs : List Addr} {f : Nat} {g : Nat → List Nat} {p : Addr} {o : HO} (h : AhL H bs f g) (n : ∀ l, H p ≠ some (.lst l)) : AhL (upd H p o) bs f g := fun i b q => by
  have hb := h i b q
  rw [upd_ne (fun z => n _ (by rw [← z]; exact hb))]
  exact hb
/-- before if lot[0] == 'row' else [] -/
theorem row_or {K : PySem.W.Frag} {H : Hp} {σ : L2.St} {b B : Addr} {wd : Str} {r l : List V} {Q : VK} (h0 : σ[0]? = some (some (.ref b))) (hb : SqT K H b (.str wd :: r)) (h3 : σ[3]? = some (some (.ref B))) (hB : H B = some (.lst l))
    (q : ∀ H' P, Eff [] H H' → H' P = some (.lst (if wd = "row" then l else [])) → Q (.ref P) H') : tIf (tTest (tOp rEq (tOp (rIxT K) (tVar 0) (tC (.int 0))) (tC (.str "row")))) (tVar 3) (tLst tNil) σ H Q := by
  refine ⟨_, h0, b, _, 0, .str wd, rfl, rfl, hb, atI_nat (j := 0) rfl, rfl, _, rfl, ite2 (fun c => ?_) (fun c => ?_)⟩
  · have e := V.str.inj (of_decide_eq_true c)
    exact ⟨_, h3, q H B Eff.refl (by rw [if_pos e]; exact hB)⟩
  · have e : ¬ wd = "row" := fun z => c (decide_eq_true (congrArg V.str z))
    exact ⟨small (by simp), fun p np => q _ p (Eff.refl.put np) (by rw [if_neg e]; exact upd_same)⟩
section
variable {w : World} {K : PySem.W.Frag} {mg : Str → Option Value} {base : Heap}
def spAhead (K : PySem.W.Frag) (n : Nat) : Sp := fun vs H Q _ => ∃ (v : V) (l : Lot) (f : Nat), vs = [v, .int (f : Nat)] ∧ LotAt K H l v ∧ l.depth ≤ n ∧ l.nodes ≤ 100000 ∧
  ∀ H' a bs, Eff [] H H' → H' a = some (.dK (ahK f (bs.map V.ref))) → bs.length = l.steps → AhL H' bs f (preds l f) → H a = none → Q (.ref a) H'
theorem ok_ahead (T : Tx K mg) : ∀ n, Cal PP w K mg base CX0 "_law_ahead" (n + 1) ["lot", "first"] (spAhead K n)
  | 0 => T.ok_law_ahead (fun vs H Q E h => by obtain ⟨v, l, f, rfl, _⟩ := h; rfl) (fun cdv A outer s H vs Q E hr h => by
      obtain ⟨v, l, f, rfl, _, hd, _⟩ := h
      have := depth_pos l
      omega)
  | n + 1 => by
    have c_law_ahead := ok_ahead T n
    refine T.ok_law_ahead (fun vs H Q E h => ?_) (fun cdv A outer s H vs Q E hr h => ?_)
    · obtain ⟨v, l, f, rfl, _⟩ := h
      rfl
    obtain ⟨v, lot, f, rfl, hv, hd, hz, q⟩ := h
    refine ⟨_, (pss_cons (ps_if (pt_cmpR op_eq (pe_ix ix_tup (pv 0) pe_int (fun _ _ => rfl)) pe_str (nomark _)) (pss_one (ps_ret (pe_disp (pps_cons (pv 1) (pe_lst pa_nil) pps_nil) rfl rfl (by simp) (by decide)))) pss_nil)
      (pss_cons (ps_par (i := 2) (j := 3) (by rfl) (sc_law_ahead).nd rfl rfl (by decide) rfl rfl (pa_cons pe_dnewK (pa_cons (pe_lst pa_nil) pa_nil)) (by rfl))
      (pss_cons (ps_for PassesOwn.never rfl (pi_tup (pe_ifExp (pt_cmpR op_eq (pe_ix ix_tup (pv 0) pe_int (fun _ _ => rfl)) pe_str (nomark _)) (pe_ix ix_tup (pv 0) pe_int (fun _ _ => rfl)) (pe_slice sl_tup (pv 0) (po_some pe_int) po_none))) (pg_name (i := 4) (sc_law_ahead).nd rfl (by first | exact Or.inl rfl | exact Or.inr rfl)) (pss_cons (ps_set (i := 5) (sc_law_ahead).nd rfl (by first | exact Or.inl rfl | exact Or.inr rfl) (pe_c c_law_ahead (hr.mono (by first | decide | omega)) pass0 (pa_cons (pv 4) (pa_cons (pe_op op_add (pv 1) (pe_callB call_lenD (by rfl) T.z_len (by decide +kernel) (pa_cons (pv 2) pa_nil))) pa_nil))))
      (pss_cons (ps_lock (ps_for PassesOwn.never rfl (pi_keys (pv 5)) (pg_name (i := 6) (sc_law_ahead).nd rfl (by first | exact Or.inl rfl | exact Or.inr rfl)) (pss_one (ps_dput (hu_of hr) (pv 2) (pv 6) (pe_op op_cat (pe_ifExp (pt_cmpR op_eq (pe_ix ix_tup (pv 0) pe_int (fun _ _ => rfl)) pe_str (nomark _)) (pv 3) (pe_lst pa_nil)) (pe_dget (hu_of hr) (pv 5) (pv 6) (fun _ _ => rfl))) rfl))))
      (pss_one (ps_set (i := 3) (sc_law_ahead).nd rfl (by first | exact Or.inl rfl | exact Or.inr rfl) (pe_op op_cat (pv 3) (pe_callTy (call_listD rfl) (by rfl) T.z_list (by decide +kernel) (pa_cons (pv 5) pa_nil))))))))
      (pss_one (ps_ret (pv 2)))))), ?_⟩
    obtain ⟨b, r, rfl, hb⟩ := hv.tup
    refine ⟨_, rfl, b, _, _, _, rfl, rfl, hb, atI_nat (j := 0) rfl, rfl, _, rfl, ite2 (fun c => ?_) (fun c => ?_)⟩
    · obtain rfl := word_step c
      refine fun p np => ⟨_, rfl, small (by simp), fun e ne => ⟨(upd_ne (ne_of_none (H := upd H p (.dK [])) upd_same ne)).trans upd_same, [(.inl (f : Nat), .ref e)], rfl, by simp, ?_⟩⟩
      have e1 : Eff [] H (upd H p (.dK [])) := Eff.refl.put np
      have e2 : Eff [] H (upd (upd H p (.dK [])) e (.lst [])) := e1.put (e1.free ne (by simp))
      have npe : e ≠ p := (ne_of_none (H := upd H p (.dK [])) upd_same ne).symm
      refine q _ p [e] (e2.put np) upd_same rfl (fun i b' q' => ?_) np
      cases i with
      | zero =>
        obtain rfl : e = b' := Option.some.inj q'
        rw [upd_ne npe, upd_same]
        rfl
      | succ i => simp at q'
    refine fun F nF => ⟨small (by simp), fun B0 nB0 => ?_⟩
    have eF : Eff [] H (upd H F (.dK [])) := Eff.refl.put nF
    have nB0' := eF.free nB0 (by simp)
    have e0 : Eff [] H (upd (upd H F (.dK [])) B0 (.lst [])) := eF.put nB0'
    have hF0 : (upd (upd H F (.dK [])) B0 (.lst [])) F = some (.dK []) := (upd_ne (ne_of_none upd_same nB0)).trans upd_same
    have hB0 : (upd (upd H F (.dK [])) B0 (.lst [])) B0 = some (.lst []) := upd_same
    refine ⟨_, _, rfl, ?_⟩
    dsimp only
    refine seq_for ?_
    refine lot_iter rfl (hv.same e0) c fun H1 a ps e1 hps hpl => ?_
    have hbb := (e0.trans e1).seqT0 hb
    have hF1 := e1 _ _ hF0 (by simp)
    have hB1 := e1 _ _ hB0 (by simp)
    have e01 := e0.trans e1
    have lps := hpl.length
    have ns : lot.word ≠ "step" := fun z => c (decide_eq_true (congrArg V.str z))
    have hnl := nodesL_len lot.parts
    have hnp := nodes_parts lot
    have hst := steps_nodes lot
    have hsp : lot.steps = Lot.stepsL lot.parts := by
      cases lot with
      | step => exact absurd rfl ns
      | row l => rfl
      | both x y => simp [Lot.steps, Lot.parts, Lot.stepsL]
    refine for_tup (K := K) (a := a) (xs := ps) (fun i σ H2 => ∃ Bf bs x4 x5 x6, σ = [some (.ref b), some (.int (f : Nat)), some (.ref F), some (.ref Bf), x4, x5, x6] ∧ Eff [] H H2 ∧ SqT K H2 b (.str lot.word :: r) ∧ SqT K H2 a ps ∧ LotsAt K H2 lot.parts ps ∧ H2 F = some (.dK (ahK f (bs.map V.ref))) ∧ bs.length = Lot.stepsL (lot.parts.take i) ∧ AhL H2 bs f (preds lot f) ∧ H2 Bf = some (.lst (nats (List.range' f bs.length)))) ?_ (fun i σ H2 _ ⟨_, _, _, _, _, _, _, _, h, _⟩ => h) ?_ ?_
    · exact ⟨B0, [], _, _, _, rfl, e01, hbb, hps, hpl, hF1, rfl, fun i b q => by simp at q, hB1⟩
    · rintro i x σ H2 hi ⟨Bf, bs, x4, x5, x6, rfl, e2, hb2, hps2, hpl2, hF2, lbs, hA2, hB2⟩
      obtain ⟨part, hpt, hx⟩ := hpl2.get hi
      have hil := (List.getElem?_eq_some_iff.mp hi).1
      have hst2 := steps_take_le lot.parts (i + 1)
      rw [steps_take_succ hpt, ← hsp] at hst2
      refine ⟨_, rfl, _, rfl, _, rfl, F, _, rfl, hF2, _, _, rfl, rfl, x, part, f + bs.length, ?_, hx, depth_part hd hpt, Nat.le_trans (nodes_part hpt) hz, fun H3 I is e3 hI lis hAI nI => ?_⟩
      · rw [ahK_len, List.length_map]
        show [x, V.int ((f : Nat) + (bs.length : Nat))] = _
        rw [← Int.natCast_add]
      have I0 : H I = none := e2.free nI (by simp)
      have hF3 := e3 _ _ hF2 (by simp)
      have hB3 := e3 _ _ hB2 (by simp)
      have hA3 := hA2.eff e3 (by simp)
      have FI : F ≠ I := ne_of_none hF2 nI
      -- for step in inner
      refine ⟨I, _, hI, trivial, fun od => ⟨_, rfl, I, od, rfl, .inl ⟨_, upd_same, ?_⟩⟩⟩
      have e3I : Eff [I] H3 (upd H3 I (.frz od (.dK (ahK (f + bs.length) (is.map V.ref))))) := Eff.refl.set (by simp)
      have LI : Lists [I] H3 := Lists.one hI rfl
      refine for_it walk_keys (fun k σ H4 => ∃ bs' x6, σ = [some (.ref b), some (.int (f : Nat)), some (.ref F), some (.ref Bf), some x, some (.ref I), x6] ∧ Eff [] H H4 ∧ SqT K H4 b (.str lot.word :: r) ∧ SqT K H4 a ps ∧ LotsAt K H4 lot.parts ps ∧ H4 I = some (.frz od (.dK (ahK (f + bs.length) (is.map V.ref)))) ∧ H4 F = some (.dK (ahK f ((bs ++ bs').map V.ref))) ∧ bs'.length = k ∧ AhL H4 (bs ++ bs') f (preds lot f) ∧ H4 Bf = some (.lst (nats (List.range' f bs.length))) ∧ AhL H4 is (f + bs.length) (preds part (f + bs.length))) ?_ (fun k σ H4 _ ⟨_, _, _, _, _, _, _, h, _⟩ => h) ?_ ?_
      · refine ⟨[], _, rfl, (e2.trans e3).put I0, e3I.seqT LI (e3.seqT0 hb2), e3I.seqT LI (e3.seqT0 hps2), (hpl2.same e3).keep e3I LI, upd_same, ?_, rfl, ?_, ?_, hAI.put (by rw [hI]; intro l z; cases z)⟩
        · rw [List.append_nil, upd_ne FI]
          exact hF3
        · rw [List.append_nil]
          exact hA3.put (by rw [hI]; intro l z; cases z)
        · rw [upd_ne (ne_of hB3 hI (by intro z; cases z))]
          exact hB3
      · rintro k y σ H4 H4' hk ⟨bs', x6, rfl, e4, hb4, hps4, hpl4, hI4, hF4, rfl, hA4, hB4, hAI4⟩ ⟨rfl, key, v, hkv, rfl⟩
        rw [ahK_len, List.length_map] at hk
        rw [ahK_get, List.getElem?_map] at hkv
        have his : is[bs'.length]? = some is[bs'.length] := List.getElem?_eq_getElem hk
        generalize is[bs'.length] = ib at his
        rw [his] at hkv
        have hkv := Option.some.inj hkv
        cases hkv
        have hib := hAI4 _ _ his
        refine row_or rfl hb4 rfl hB4 fun H5 P e5 hP => ?_
        have hib5 := e5 _ _ hib (by simp)
        have hF5 := e5 _ _ hF4 (by simp)
        have l1 := preds_len part (f + bs.length) (f + bs.length + bs'.length)
        refine ⟨_, rfl, _, rfl, I, .ref ib, rfl, .inl ⟨_, .inl ((f + bs.length + bs'.length : Nat) : Int), .inr ⟨od, e5 _ _ hI4 (by simp)⟩, rfl, ?_⟩, P, ib, _, _, rfl, rfl, hP, hib5, ?_, fun Z nZ => ?_⟩
        · rw [ahK_val, List.getElem?_map, his]
          rfl
        · rw [nats_len]
          split
          · rw [nats_len, List.length_range']
            exact Nat.le_trans (show _ ≤ 1000000 by omega) (by decide)
          · exact Nat.le_trans (show _ ≤ 1000000 by simp; omega) (by decide)
        have eZ : Eff [] H5 (upd H5 Z (.lst ((if lot.word = "row" then nats (List.range' f bs.length) else []) ++ nats (preds part (f + bs.length) (f + bs.length + bs'.length))))) := Eff.refl.put nZ
        have enew : (if lot.word = "row" then nats (List.range' f bs.length) else []) ++ nats (preds part (f + bs.length) (f + bs.length + bs'.length)) = nats (preds lot f (f + bs.length + bs'.length)) := by
          rw [preds_part ns hpt (by omega) (by omega), nats_append, lbs]
          congr 1
          split <;> rfl
        rw [enew] at eZ ⊢
        have hF6 := eZ _ _ hF5 (by simp)
        have e56 := e5.trans eZ
        have hZ6 : (upd H5 Z (.lst (nats (preds lot f (f + bs.length + bs'.length))))) Z = some (.lst (nats (preds lot f (f + bs.length + bs'.length)))) := upd_same
        generalize (upd H5 Z (.lst (nats (preds lot f (f + bs.length + bs'.length))))) = H6 at *
        have ekey : ((f + bs.length + bs'.length : Nat) : Int) = ((f + ((bs ++ bs').map V.ref).length : Nat) : Int) := by
          rw [List.length_map, List.length_append, Nat.add_assoc]
        have eF : Eff [F] H6 (upd H6 F (.dK (ahK f ((bs ++ (bs' ++ [Z])).map V.ref)))) := Eff.refl.set (by simp)
        have LF : Lists [F] H6 := Lists.one hF6 rfl
        have FI6 : I ≠ F := FI.symm
        have hDP : DPut H6 F (kV (.inl ((f + bs.length + bs'.length : Nat) : Int))) (.ref Z) (upd H6 F (.dK (ahK f ((bs ++ (bs' ++ [Z])).map V.ref)))) := by
          refine .inl ⟨_, _, hF6, rfl, ?_, ?_⟩
          · rw [ahK_len, List.length_map, List.length_append]
            exact Nat.lt_of_lt_of_le (show _ < 1000001 by omega) (by decide)
          · rw [ekey, ahK_put, ← List.append_assoc, List.map_append (l₁ := bs ++ bs')]
            rfl
        refine ⟨_, rfl, _, rfl, F, _, rfl, hDP, bs' ++ [Z], _, rfl, ?_, eF.seqT LF (e56.seqT0 hb4), eF.seqT LF (e56.seqT0 hps4), (hpl4.same e56).keep eF LF, ?_, upd_same, by simp, ?_, ?_, ?_⟩
        · exact (e4.trans e56).put nF
        · rw [upd_ne FI6]
          exact e56 _ _ hI4 (by simp)
        · rw [← List.append_assoc]
          have hA6 : AhL H6 (bs ++ bs') f (preds lot f) := hA4.eff e56 (by simp)
          have hA7 : AhL H6 ((bs ++ bs') ++ [Z]) f (preds lot f) := by
            intro j z hz
            by_cases cj : j < (bs ++ bs').length
            · rw [List.getElem?_append_left cj] at hz
              exact hA6 j z hz
            · rw [List.getElem?_append_right (by omega)] at hz
              have z0 : j - (bs ++ bs').length = 0 := by
                cases q0 : j - (bs ++ bs').length with
                | zero => rfl
                | succ m => rw [q0] at hz; simp at hz
              rw [z0] at hz
              obtain rfl : Z = z := Option.some.inj hz
              have ej : f + j = f + bs.length + bs'.length := by
                rw [List.length_append] at z0 cj
                omega
              rw [ej]
              exact hZ6
          exact hA7.put (by rw [hF6]; intro l z; cases z)
        · have hB6 := e56 _ _ hB4 (by simp)
          rw [upd_ne (ne_of hB6 hF6 (by intro z; cases z))]
          exact hB6
        · exact (hAI4.eff e56 (by simp)).put (by rw [hF6]; intro l z; cases z)
      · rintro σ H4 ⟨bs', x6, rfl, e4, hb4, hps4, hpl4, hI4, hF4, lbs', hA4, hB4, hAI4⟩
        rw [ahK_len, List.length_map] at lbs'
        refine ⟨hI4, ?_⟩
        have e5 : Eff [I] H4 (upd H4 I (.dK (ahK (f + bs.length) (is.map V.ref)))) := Eff.refl.set (by simp)
        have L5 : Lists [I] H4 := Lists.one hI4 rfl
        have e5' : Eff [] H (upd H4 I (.dK (ahK (f + bs.length) (is.map V.ref)))) := e4.put I0
        have hF5 : (upd H4 I (.dK (ahK (f + bs.length) (is.map V.ref)))) F = some (.dK (ahK f ((bs ++ bs').map V.ref))) := by rw [upd_ne FI]; exact hF4
        have hB5 : (upd H4 I (.dK (ahK (f + bs.length) (is.map V.ref)))) Bf = some (.lst (nats (List.range' f bs.length))) := by rw [upd_ne (ne_of hB4 hI4 (by intro z; cases z))]; exact hB4
        have hA5 : AhL (upd H4 I (.dK (ahK (f + bs.length) (is.map V.ref)))) (bs ++ bs') f (preds lot f) := hA4.put (by rw [hI4]; intro l z; cases z)
        have hI5 : (upd H4 I (.dK (ahK (f + bs.length) (is.map V.ref)))) I = some (.dK (ahK (f + bs.length) (is.map V.ref))) := upd_same
        have hb5 := e5.seqT L5 hb4
        have hps5 := e5.seqT L5 hps4
        have hpl5 := hpl4.keep e5 L5
        generalize (upd H4 I (.dK (ahK (f + bs.length) (is.map V.ref)))) = H5 at *
        -- before = before + list(inner)
        refine ⟨_, rfl, _, rfl, I, _, rfl, .inl hI5, fun L nL => ⟨Bf, L, _, _, rfl, rfl, (upd_ne (ne_of_none hB5 nL)).trans hB5, upd_same, ?_, fun Z nZ => ?_⟩⟩
        · rw [ahK_kV, List.length_map, List.length_map, nats_len, List.length_range', List.length_range']
          exact Nat.le_trans (show _ ≤ 1000000 by omega) (by decide)
        have eL : Eff [] H5 (upd H5 L (.lst ((ahK (f + bs.length) (is.map V.ref)).map fun kv => kV kv.1))) := Eff.refl.put nL
        have eLZ := eL.put (o := .lst (nats (List.range' f bs.length) ++ (ahK (f + bs.length) (is.map V.ref)).map fun kv => kV kv.1)) (eL.free nZ (by simp))
        refine ⟨Z, bs ++ bs', _, _, _, rfl, e5'.trans eLZ, eLZ.seqT0 hb5, eLZ.seqT0 hps5, hpl5.same eLZ, eLZ _ _ hF5 (by simp), ?_, hA5.eff eLZ (by simp), ?_⟩
        · rw [List.length_append, steps_take_succ hpt]
          omega
        · rw [upd_same, ahK_kV, List.length_map, List.length_append, ← range'_snoc, nats_append, lbs']
          rfl
    · rintro σ H2 ⟨Bf, bs, x4, x5, x6, rfl, e2, hb2, hps2, hpl2, hF2, lbs, hA2, hB2⟩
      rw [lps, List.take_length, ← hsp] at lbs
      exact ⟨_, rfl, q H2 F bs e2 hF2 lbs hA2 nF⟩
end
end HK
set_option Elab.async false
set_option linter.all false
set_option maxRecDepth 100000
set_option maxHeartbeats 400000
namespace HK
open PySem PySem.Spec PyProof.Rows L2
theorem sorted_uniq : ∀ {a b : List Int}, a.Perm b → a.Pairwise (· ≤ ·) → b.Pairwise (· ≤ ·) → a = b
  | [], b, p, _, _ => by rw [List.nil_perm.mp p]
  | x :: a, [], p, _, _ => by have := p.length_eq; simp at this
  | x :: a, y :: b, p, ha, hb => by
    obtain ⟨h1, h2⟩ := List.pairwise_cons.mp ha
    obtain ⟨h3, h4⟩ := List.pairwise_cons.mp hb
    have e : x = y := by
      have m1 : x ∈ y :: b := p.mem_iff.mp (by simp)
      have m2 : y ∈ x :: a := p.mem_iff.mpr (by simp)
      rcases List.mem_cons.mp m1 with e | m1
      · exact e
      · rcases List.mem_cons.mp m2 with e | m2
        · exact e.symm
        · have := h1 y m2
          have := h3 x m1
          omega
    subst e
    rw [sorted_uniq ((List.perm_cons x).mp p) h2 h4]
theorem range_pw (f n : Nat) : ((List.range' f n).map fun k : Nat => (k : Int)).Pairwise (· ≤ ·) := by
  rw [List.pairwise_map]
  refine List.Pairwise.imp ?_ (List.pairwise_lt_range' (s := f) (n := n))
  intro a b h
  omega
theorem sorted_keys {ys : List Int} {n : Nat} (p : ys.Perm ((List.range' 0 n).map fun k : Nat => (k : Int))) (s : ys.Pairwise (· ≤ ·)) : ys.map V.int = nats (List.range n) := by
  rw [sorted_uniq p s (range_pw 0 n), List.map_map, List.range_eq_range']
  rfl
theorem ahK_val0 (l : List V) (i : Nat) : valV (ahK 0 l) (.inl (i : Int) : L2.Key) = l[i]? := by
  have h := ahK_val 0 l i
  rw [Nat.zero_add] at h
  exact h
/-- a dict of the keys l to the numbers that g tells -/
def keysK (l : List Nat) (g : Nat → Nat) : List (L2.Key × V) := l.map fun j : Nat => (.inl (j : Int), .int (g j : Nat))
theorem keysK_len (l : List Nat) (g : Nat → Nat) : (keysK l g).length = l.length := List.length_map _
theorem keysK_val {l : List Nat} {g : Nat → Nat} {j : Nat} (h : j ∈ l) : valV (keysK l g) (.inl (j : Int) : L2.Key) = some (.int (g j : Nat)) := by
  induction l with
  | nil => cases h
  | cons x r ih =>
    show valV ((.inl (x : Int), .int (g x : Nat)) :: keysK r g) _ = _
    by_cases e : x = j
    · subst e
      rw [valV_pos rfl]
    · rw [valV_neg (fun z => e (by (have := Sum.inl.inj z; omega)))]
      exact ih ((List.mem_cons.mp h).resolve_left fun z => e z.symm)
theorem keysK_not {l : List Nat} {g : Nat → Nat} {j : Nat} (h : j ∉ l) : valV (keysK l g) (.inl (j : Int) : L2.Key) = none := by
  induction l with
  | nil => rfl
  | cons x r ih =>
    show valV ((.inl (x : Int), .int (g x : Nat)) :: keysK r g) _ = _
    rw [valV_neg (fun z => h (by (have := Sum.inl.inj z; simp; omega)))]
    exact ih fun z => h (List.mem_cons_of_mem _ z)
theorem keysK_put {l : List Nat} {g : Nat → Nat} {j : Nat} (h : j ∉ l) : putK (keysK l g) (.inl (j : Int) : L2.Key) (.int (g j : Nat)) = keysK (l ++ [j]) g := by
  rw [putK_new _ (keysK_not h)]
  unfold keysK
  rw [List.map_append]
  rfl
/-- the dict that _law_ahead tells -/
structure AhAt (H : Hp) (a : Addr) (bs : List Addr) (l : Lot) : Prop where
  top : H a = some (.dK (ahK 0 (bs.map V.ref)))
  len : bs.length = l.steps
  one : AhL H bs 0 (preds l 0)
section
variable {H H' : Hp} {a : Addr} {bs : List Addr} {l : Lot}
theorem AhAt.eff (h : AhAt H a bs l) (e : Eff [] H H') : AhAt H' a bs l := ⟨e _ _ h.top (by simp), h.len, h.one.eff e (by simp)⟩
theorem AhAt.at (h : AhAt H a bs l) {i : Nat} (hi : i < l.steps) : ∃ b, valV (ahK 0 (bs.map V.ref)) (.inl (i : Int) : L2.Key) = some (.ref b) ∧ H b = some (.lst (nats (preds l 0 i))) := by
  have hl : i < bs.length := by rw [h.len]; exact hi
  have e := List.getElem?_eq_getElem hl
  refine ⟨bs[i], ?_, ?_⟩
  · rw [ahK_val0, List.getElem?_map, e]
    rfl
  · have q := h.one i _ e
    rw [Nat.zero_add] at q
    exact q
theorem AhAt.keys (h : AhAt H a bs l) : (ahK 0 (bs.map V.ref)).map (·.1) = ((List.range' 0 l.steps).map fun n : Nat => (n : Int)).map Sum.inl := by
  rw [ahK_keys, List.length_map, h.len]
theorem AhAt.put (h : AhAt H a bs l) {p : Addr} {o : HO} (n : p ≠ a) (m : ∀ xs, H p ≠ some (.lst xs)) : AhAt (upd H p o) a bs l := ⟨by rw [upd_ne n.symm]; exact h.top, h.len, h.one.put m⟩
end
theorem nats_flat (l : List Nat) : (nats l).all flatV = true := by
  unfold nats
  rw [List.all_map]
  exact List.all_eq_true.mpr fun _ _ => rfl
theorem nats_in (l : List Nat) (i : Nat) : inV (.int (i : Nat)) (nats l) = decide (i ∈ l) := by
  unfold inV nats
  rw [List.any_map, Bool.eq_iff_iff, List.any_eq_true, decide_eq_true_eq]
  constructor
  · rintro ⟨x, hx, e⟩
    have e : ((x : Nat) : Int) = (i : Nat) := by simpa [eqV] using e
    have : x = i := by omega
    rw [← this]
    exact hx
  · intro h
    exact ⟨i, h, by simp [eqV]⟩
section
variable {w : World} {K : PySem.W.Frag} {mg : Str → Option Value} {base : Heap}
def spKeys (K : PySem.W.Frag) (ks : Lot → List Nat) (g : Lot → Nat → Nat) : Sp := fun vs H Q _ => ∃ (a : Addr) (bs : List Addr) (l : Lot), vs = [.ref a] ∧ AhAt H a bs l ∧ l.steps ≤ 1000 ∧ ∀ H' p, Eff [] H H' → H' p = some (.dK (keysK (ks l) (g l))) → H p = none → Q (.ref p) H'
theorem ok_longest (T : Tx K mg) : Cal PP w K mg base CX0 "_law_longest" 1 ["ahead"] (spKeys K (fun l => List.range l.steps) (fun l => levF l 0 0)) := by
  refine T.ok_law_longest (fun vs H Q E h => ?_) (fun cdv A outer s H vs Q E hr h => ?_)
  · obtain ⟨a, bs, l, rfl, _⟩ := h
    rfl
  obtain ⟨a, bs, l, rfl, hA, hn, q⟩ := h
  refine ⟨_, (pss_cons (ps_set (i := 1) (sc_law_longest).nd rfl (by first | exact Or.inl rfl | exact Or.inr rfl) pe_dnewK)
      (pss_cons (ps_for PassesOwn.never rfl (pi_list (pe_callB (cr_sortedDI rfl) (by rfl) T.z_sorted (by decide +kernel) (pa_cons (pv 0) pa_nil))) (pg_name (i := 2) (sc_law_longest).nd rfl (by first | exact Or.inl rfl | exact Or.inr rfl)) (pss_one (ps_dput (hu_of hr) (pv 1) (pv 2) (pe_op op_add pe_int (pe_callB (cr_max rfl) (by rfl) T.z_max (by decide +kernel) (pa_cons (pe_op op_cat (pe_lst (pa_cons pe_int pa_nil)) (pe_lc (own := [("one", 3)]) (g := (gName 3)) (te := (tDGet (tVar 1) (tVar 3))) (tt := tYes) (by rfl) (sc_law_longest).nd (pi_list (pe_dget (hu_of hr) (pv 0) (pv 2) (fun _ _ => rfl))) (blkOk_by (own := [("one", 3)]) (N := nm_law_longest) (sc := sp_law_longest) (by decide +kernel)) (fun _ _ _ _ _ => (pg_name (i := 3) (sc_law_longest).nd rfl (by first | exact Or.inl rfl | exact Or.inr rfl))) (fun _ _ _ _ _ => pts_nil) (fun _ _ _ _ _ => (pe_dget (hu_of hr) (pv 1) (pv 3) (fun _ _ => rfl))))) pa_nil))) rfl)))
      (pss_one (ps_ret (pv 1))))), ?_⟩
  refine fun F nF => ?_
  have eF : Eff [] H (upd H F (.dK [])) := Eff.refl.put nF
  have hA1 := hA.eff eF
  have hF1 : (upd H F (.dK [])) F = some (.dK (keysK [] (levF l 0 0))) := upd_same
  have naF : F ≠ a := (ne_of_none hA.top nF).symm
  generalize (upd H F (.dK [])) = H1 at *
  refine ⟨_, rfl, a, _, _, rfl, .inl hA1.top, hA1.keys, fun ys p hp hs np => ?_⟩
  rw [sorted_keys hp hs]
  refine ⟨p, rfl, ⟨_, .inl (.inl upd_same)⟩, ?_⟩
  have eP : Eff [] H1 (upd H1 p (.lst (nats (List.range l.steps)))) := Eff.refl.put np
  have hP2 : (upd H1 p (.lst (nats (List.range l.steps)))) p = some (.lst (nats (List.range l.steps))) := upd_same
  have hA2 := hA1.eff eP
  have hF2 := eP _ _ hF1 (by simp)
  have e2 := eF.trans eP
  generalize (upd H1 p (.lst (nats (List.range l.steps)))) = H2 at *
  refine for_list (K := K) (a := p) (xs := nats (List.range l.steps)) (fun i σ H3 => ∃ x2 x3, σ = [some (.ref a), some (.ref F), x2, x3] ∧ Eff [] H H3 ∧ H3 p = some (.lst (nats (List.range l.steps))) ∧ AhAt H3 a bs l ∧ H3 F = some (.dK (keysK (List.range i) (levF l 0 0)))) ⟨_, _, rfl, e2, hP2, hA2, hF2⟩ (fun i σ H3 _ ⟨_, _, _, _, h, _⟩ => .inl (.inl h)) ?_ ?_
  · rintro i x σ H3 hi ⟨x2, x3, rfl, e3, hP3, hA3, hF3⟩
    obtain ⟨i', hi', rfl⟩ := nats_get hi
    have hil := (List.getElem?_eq_some_iff.mp hi').1
    rw [List.length_range] at hil
    obtain rfl : i = i' := by
      rw [List.getElem?_range hil] at hi'
      exact Option.some.inj hi'
    refine ⟨small (by simp), fun o no => ?_⟩
    have eo : Eff [] H3 (upd H3 o (.lst [.int 0])) := Eff.refl.put no
    have ho4 : (upd H3 o (.lst [.int 0])) o = some (.lst [.int 0]) := upd_same
    have hA4 := hA3.eff eo
    have hF4 := eo _ _ hF3 (by simp)
    have hP4 := eo _ _ hP3 (by simp)
    have e4 := e3.trans eo
    generalize (upd H3 o (.lst [.int 0])) = H4 at *
    obtain ⟨b, hb1, hb2⟩ := hA4.at hil
    have lpr := preds_len l 0 i
    refine ⟨_, rfl, _, rfl, a, .ref b, rfl, .inl ⟨_, .inl (i : Int), .inl hA4.top, rfl, hb1.symm⟩, b, rfl, ⟨_, .inl (.inl hb2)⟩, fun D nD => ?_⟩
    refine lc_list (K := K) (a := b) (xs := nats (preds l 0 i)) (fun m H5 => H5 D = some (.lst (nats (((preds l 0 i).take m).map (levF l 0 0)))) ∧ Eff [] H4 H5) ⟨upd_same, Eff.refl.put nD⟩ (fun m H5 _ h => .inl (.inl (h.2 _ _ hb2 (by simp)))) ?_ ?_
    · rintro m z H5 hz ⟨hD, e5⟩
      obtain ⟨one, hone, rfl⟩ := nats_get hz
      have hm := List.mem_of_getElem? hone
      have q1 := preds_rng (l := l) (f := 0) (Nat.zero_le _) (by omega) hm
      have hm2 := (List.getElem?_eq_some_iff.mp hone).1
      refine ⟨rfl, yes_go ⟨_, rfl, _, rfl, F, _, rfl, .inl ⟨_, .inl (one : Int), .inl (e5 _ _ hF4 (by simp)), rfl, (keysK_val (by rw [List.mem_range]; omega)).symm⟩, _, hD, ?_, ?_, e5.put nD⟩⟩
      · rw [nats_len, List.length_map, List.length_take]
        exact Nat.lt_of_lt_of_le (show _ < 1000001 by omega) (by decide)
      · rw [upd_same, List.take_add_one, hone, List.map_append, nats_append]
        rfl
    · rintro H5 ⟨hD, e5⟩
      rw [nats_len, List.take_length] at hD
      refine ⟨o, D, _, _, rfl, rfl, e5 _ _ ho4 (by simp), hD, ?_, fun o3 no3 => ?_⟩
      · rw [nats_len, List.length_map]
        exact Nat.le_trans (show _ ≤ 1000001 by simp; omega) (by decide)
      have em : [V.int 0] ++ nats ((preds l 0 i).map (levF l 0 0)) = (((0 :: (preds l 0 i).map (levF l 0 0)).map fun n : Nat => (n : Int)).map V.int) := by
        rw [← nats_ints]
        rfl
      rw [em]
      refine ⟨o3, _, rfl, .inl (.inl upd_same), by simp, fun m hm hle => ?_⟩
      obtain ⟨k, hk, rfl⟩ := List.mem_map.mp hm
      have hk2 := lev_max l hil hk fun y hy => Int.ofNat_le.mp (hle y (List.mem_map.mpr ⟨y, hy, rfl⟩))
      have e6 : Eff [] H4 (upd H5 o3 (.lst (((0 :: (preds l 0 i).map (levF l 0 0)).map fun n : Nat => (n : Int)).map V.int))) := e5.put (e5.free no3 (by simp))
      have hF6 := e6 _ _ hF4 (by simp)
      have hA6 := hA4.eff e6
      have hP6 := e6 _ _ hP4 (by simp)
      have e46 := e4.trans e6
      generalize (upd H5 o3 (.lst (((0 :: (preds l 0 i).map (levF l 0 0)).map fun n : Nat => (n : Int)).map V.int))) = H6 at *
      have ek : (1 : Int) + (k : Nat) = (levF l 0 0 i : Nat) := by omega
      refine ⟨1, k, rfl, rfl, _, rfl, _, rfl, F, upd H6 F (.dK (keysK (List.range (i + 1)) (levF l 0 0))), rfl, .inl ⟨_, .inl (i : Int), hF6, rfl, ?_, ?_⟩, _, _, rfl, e46.put nF, ?_, hA6.put naF (by rw [hF6]; intro xs z; cases z), upd_same⟩
      · rw [keysK_len, List.length_range]
        exact Nat.lt_of_lt_of_le (show _ < 1000001 by omega) (by decide)
      · have ep : putK (keysK (List.range i) (levF l 0 0)) (.inl (i : Int) : L2.Key) (.int ((1 : Int) + (k : Nat))) = keysK (List.range (i + 1)) (levF l 0 0) := by
          rw [ek, keysK_put (by simp), List.range_succ]
        rw [← ep]
      · rw [upd_ne (ne_of hP6 hF6 (by intro z; cases z))]
        exact hP6
  · rintro σ H3 ⟨x2, x3, rfl, e3, hP3, hA3, hF3⟩
    rw [nats_len, List.length_range] at hF3
    exact ⟨_, rfl, q H3 F e3 hF3 nF⟩
end
end HK
set_option Elab.async false
set_option linter.all false
set_option maxRecDepth 100000
set_option maxHeartbeats 400000
namespace HK
open PySem PySem.Spec PyProof.Rows L2
/-- the last i of the numbers below n, from the greatest down -/
def downK (n i : Nat) : List Nat := (List.range n).reverse.take i
theorem downK_mem {n i j : Nat} (hi : i ≤ n) : j ∈ downK n i ↔ n - i ≤ j ∧ j < n := by
  unfold downK
  rw [List.mem_iff_getElem?]
  constructor
  · rintro ⟨k, hk⟩
    rw [List.getElem?_take] at hk
    split at hk
    · rename_i c
      rw [List.getElem?_reverse (by rw [List.length_range]; omega), List.length_range] at hk
      rw [List.getElem?_range (by omega)] at hk
      have := Option.some.inj hk
      omega
    · cases hk
  · rintro ⟨h1, h2⟩
    refine ⟨n - 1 - j, ?_⟩
    rw [List.getElem?_take, if_pos (by omega), List.getElem?_reverse (by rw [List.length_range]; omega), List.length_range, List.getElem?_range (by omega)]
    congr 1
    omega
theorem downK_at {n i : Nat} (hi : i < n) : (List.range n).reverse[i]? = some (n - 1 - i) := by
  rw [List.getElem?_reverse (by rw [List.length_range]; omega), List.length_range, List.getElem?_range (by omega)]
theorem downK_succ {n i : Nat} (hi : i < n) : downK n (i + 1) = downK n i ++ [n - 1 - i] := by
  unfold downK
  rw [List.take_add_one, downK_at hi]
  rfl
theorem nats_rev (l : List Nat) : (nats l).reverse = nats l.reverse := by
  unfold nats
  rw [List.map_reverse]
theorem keysK_get {l : List Nat} {g : Nat → Nat} {i : Nat} {k : L2.Key} {v : V} (h : (keysK l g)[i]? = some (k, v)) : ∃ j, l[i]? = some j ∧ k = .inl (j : Int) := by
  unfold keysK at h
  rw [List.getElem?_map] at h
  cases q : l[i]? with
  | none => rw [q] at h; cases h
  | some j =>
    rw [q] at h
    have h := Option.some.inj h
    exact ⟨j, rfl, (congrArg Prod.fst h).symm⟩
theorem filter_take {p : Nat → Bool} {l : List Nat} {i j : Nat} (h : l[i]? = some j) : (l.take (i + 1)).filter p = (l.take i).filter p ++ if p j = true then [j] else [] := by
  rw [List.take_add_one, h, List.filter_append]
  congr 1
  show [j].filter p = _
  by_cases c : p j = true
  · rw [if_pos c, List.filter_cons_of_pos c]; rfl
  · rw [if_neg c, List.filter_cons_of_neg c]; rfl
section
variable {w : World} {K : PySem.W.Frag} {mg : Str → Option Value} {base : Heap}
theorem ok_law_hei (T : Tx K mg) : Cal PP w K mg base CX0 "_law_heights" 1 ["ahead"] (spKeys K (fun l => downK l.steps l.steps) (fun l => heiF l 0 0)) := by
  refine T.ok_law_heights (fun vs H Q E h => ?_) (fun cdv A outer s H vs Q E hr h => ?_)
  · obtain ⟨a, bs, l, rfl, _⟩ := h
    rfl
  obtain ⟨a, bs, l, rfl, hA, hn, q⟩ := h
  refine ⟨_, (pss_cons (ps_set (i := 1) (sc_law_heights).nd rfl (by first | exact Or.inl rfl | exact Or.inr rfl) pe_dnewK)
      (pss_cons (ps_for PassesOwn.never rfl (pi_list (pe_revL (pe_callB (cr_sortedDI rfl) (by rfl) T.z_sorted (by decide +kernel) (pa_cons (pv 0) pa_nil)))) (pg_name (i := 2) (sc_law_heights).nd rfl (by first | exact Or.inl rfl | exact Or.inr rfl)) (pss_one (ps_dput (hu_of hr) (pv 1) (pv 2) (pe_op op_add pe_int (pe_callB (cr_max rfl) (by rfl) T.z_max (by decide +kernel) (pa_cons (pe_op op_cat (pe_lst (pa_cons pe_int pa_nil)) (pe_lock (pe_lc (own := [("one", 3)]) (g := (gName 3)) (te := (tDGet (tVar 1) (tVar 3))) (tt := (tTest (tOp (rIn K false) (tVar 2) (tDGet (tVar 0) (tVar 3))))) (by rfl) (sc_law_heights).nd (pi_keys (pv 1)) (blkOk_by (own := [("one", 3)]) (N := nm_law_heights) (sc := sp_law_heights) (by decide +kernel)) (fun _ _ _ _ _ => (pg_name (i := 3) (sc_law_heights).nd rfl (by first | exact Or.inl rfl | exact Or.inr rfl))) (fun _ _ _ _ _ => pts_one (pt_cmpR op_in_seq (pv 2) (pe_dget (hu_of hr) (pv 0) (pv 3) (fun _ _ => rfl)) (by rfl))) (fun _ _ _ _ _ => (pe_dget (hu_of hr) (pv 1) (pv 3) (fun _ _ => rfl)))))) pa_nil))) rfl)))
      (pss_one (ps_ret (pv 1))))), ?_⟩
  refine fun F nF => ?_
  have eF : Eff [] H (upd H F (.dK [])) := Eff.refl.put nF
  have hA1 := hA.eff eF
  have hF1 : (upd H F (.dK [])) F = some (.dK (keysK (downK l.steps 0) (heiF l 0 0))) := upd_same
  have naF : F ≠ a := (ne_of_none hA.top nF).symm
  generalize (upd H F (.dK [])) = H1 at *
  refine ⟨_, rfl, a, _, _, rfl, .inl hA1.top, hA1.keys, fun ys p hp hs np => ?_⟩
  rw [sorted_keys hp hs]
  have eP : Eff [] H1 (upd H1 p (.lst (nats (List.range l.steps)))) := Eff.refl.put np
  refine ⟨p, _, rfl, .inl (.inl upd_same), fun p2 np2 => ?_⟩
  rw [nats_rev]
  refine ⟨p2, rfl, ⟨_, .inl (.inl upd_same)⟩, ?_⟩
  have eP2 := eP.put (o := .lst (nats (List.range l.steps).reverse)) (eP.free np2 (by simp))
  have hP2 : (upd (upd H1 p (.lst (nats (List.range l.steps)))) p2 (.lst (nats (List.range l.steps).reverse))) p2 = some (.lst (nats (List.range l.steps).reverse)) := upd_same
  have hA2 := hA1.eff eP2
  have hF2 := eP2 _ _ hF1 (by simp)
  have e2 := eF.trans eP2
  generalize (upd (upd H1 p (.lst (nats (List.range l.steps)))) p2 (.lst (nats (List.range l.steps).reverse))) = H2 at *
  refine for_list (K := K) (a := p2) (xs := nats (List.range l.steps).reverse) (fun i σ H3 => ∃ x2 x3, σ = [some (.ref a), some (.ref F), x2, x3] ∧ Eff [] H H3 ∧ H3 p2 = some (.lst (nats (List.range l.steps).reverse)) ∧ AhAt H3 a bs l ∧ H3 F = some (.dK (keysK (downK l.steps i) (heiF l 0 0)))) ⟨_, _, rfl, e2, hP2, hA2, hF2⟩ (fun i σ H3 _ ⟨_, _, _, _, h, _⟩ => .inl (.inl h)) ?_ ?_
  · rintro i x σ H3 hi ⟨x2, x3, rfl, e3, hP3, hA3, hF3⟩
    obtain ⟨st, hst, rfl⟩ := nats_get hi
    have hil := (List.getElem?_eq_some_iff.mp hst).1
    rw [List.length_reverse, List.length_range] at hil
    obtain rfl : l.steps - 1 - i = st := by
      rw [downK_at hil] at hst
      exact Option.some.inj hst
    obtain ⟨st, est⟩ : ∃ st, st + i + 1 = l.steps := ⟨l.steps - 1 - i, by omega⟩
    rw [show l.steps - 1 - i = st by omega] at hst hi ⊢
    have hlt : st < l.steps := by omega
    refine ⟨small (by simp), fun o no => ?_⟩
    have eo : Eff [] H3 (upd H3 o (.lst [.int 0])) := Eff.refl.put no
    have ho4 : (upd H3 o (.lst [.int 0])) o = some (.lst [.int 0]) := upd_same
    have hA4 := hA3.eff eo
    have hF4 := eo _ _ hF3 (by simp)
    have hP4 := eo _ _ hP3 (by simp)
    have e4 := e3.trans eo
    generalize (upd H3 o (.lst [.int 0])) = H4 at *
    -- [found[one] for one in found if step in ahead[one]]
    refine ⟨F, _, hF4, trivial, fun od => ⟨_, rfl, F, od, rfl, .inl ⟨_, upd_same, fun D nD => ?_⟩⟩⟩
    have hA5 : AhAt (upd H4 F (.frz od (.dK (keysK (downK l.steps i) (heiF l 0 0))))) a bs l := hA4.put naF (by rw [hF4]; intro xs z; cases z)
    have hF5 : (upd H4 F (.frz od (.dK (keysK (downK l.steps i) (heiF l 0 0))))) F = some (.frz od (.dK (keysK (downK l.steps i) (heiF l 0 0)))) := upd_same
    have noF : o ≠ F := ne_of ho4 hF4 (by intro z; cases z)
    have npF : p2 ≠ F := ne_of hP4 hF4 (by intro z; cases z)
    have ho5 : (upd H4 F (.frz od (.dK (keysK (downK l.steps i) (heiF l 0 0))))) o = some (.lst [.int 0]) := (upd_ne noF).trans ho4
    have hP5 : (upd H4 F (.frz od (.dK (keysK (downK l.steps i) (heiF l 0 0))))) p2 = some (.lst (nats (List.range l.steps).reverse)) := (upd_ne npF).trans hP4
    have e5 : Eff [] H (upd H4 F (.frz od (.dK (keysK (downK l.steps i) (heiF l 0 0))))) := e4.put nF
    generalize (upd H4 F (.frz od (.dK (keysK (downK l.steps i) (heiF l 0 0))))) = H5 at *
    refine lc_it walk_keys (fun m H6 => H6 D = some (.lst (nats ((((downK l.steps i).take m).filter fun j => decide (st ∈ preds l 0 j)).map (heiF l 0 0)))) ∧ Eff [] H5 H6) ⟨upd_same, Eff.refl.put nD⟩ (fun m H6 _ h => h.2 _ _ hF5 (by simp)) ?_ ?_
    · rintro m z H6 H6' hm ⟨hD, e6⟩ ⟨rfl, key, v, hkv, rfl⟩
      rw [keysK_len] at hm
      obtain ⟨one, hone, rfl⟩ := keysK_get hkv
      have h1 := (downK_mem (n := l.steps) (i := i) (by omega)).mp (List.mem_of_getElem? hone)
      have hA6 := hA5.eff e6
      obtain ⟨b, hb1, hb2⟩ := hA6.at h1.2
      refine ⟨rfl, _, rfl, _, rfl, _, rfl, a, .ref b, rfl, .inl ⟨_, .inl (one : Int), .inl hA6.top, rfl, hb1.symm⟩, b, _, rfl, .inl (.inl (.inl hb2)), rfl, nats_flat _, _, rfl, ?_⟩
      rw [nats_in, filter_take hone]
      refine ite2 (fun c => ?_) (fun c => ?_)
      · rw [if_pos (by simpa using c)]
        refine ⟨_, rfl, _, rfl, F, _, rfl, .inl ⟨_, .inl (one : Int), .inr ⟨od, e6 _ _ hF5 (by simp)⟩, rfl, (keysK_val (List.mem_of_getElem? hone)).symm⟩, _, hD, ?_, ?_, e6.put nD⟩
        · rw [nats_len, List.length_map]
          have q1 := List.length_filter_le (fun j => decide (st ∈ preds l 0 j)) ((downK l.steps i).take m)
          rw [List.length_take] at q1
          have q2 : (downK l.steps i).length ≤ l.steps := by
            unfold downK
            rw [List.length_take, List.length_reverse, List.length_range]
            omega
          exact Nat.lt_of_lt_of_le (show _ < 1000001 by omega) (by decide)
        · rw [upd_same, List.map_append, nats_append]
          rfl
      · rw [if_neg (by simpa using c), List.append_nil]
        exact ⟨hD, e6⟩
    · rintro H6 ⟨hD, e6⟩
      rw [keysK_len, List.take_length] at hD
      refine ⟨e6 _ _ hF5 (by simp), ?_⟩
      have nDF : D ≠ F := (ne_of_none hF5 nD).symm
      have q2 : ((downK l.steps i).filter fun j => decide (st ∈ preds l 0 j)).length ≤ l.steps := by
        have q1 := List.length_filter_le (fun j => decide (st ∈ preds l 0 j)) (downK l.steps i)
        have q3 : (downK l.steps i).length ≤ l.steps := by
          unfold downK
          rw [List.length_take, List.length_reverse, List.length_range]
          omega
        omega
      have hS : ∀ j, j ∈ ((downK l.steps i).filter fun j => decide (st ∈ preds l 0 j)) ↔ j < l.steps ∧ st ∈ preds l 0 j := by
        intro j
        rw [List.mem_filter, decide_eq_true_eq, downK_mem (by omega)]
        constructor
        · rintro ⟨⟨_, h1⟩, h2⟩
          exact ⟨h1, h2⟩
        · rintro ⟨h1, h2⟩
          have := preds_rng (l := l) (f := 0) (Nat.zero_le _) (by omega) h2
          exact ⟨⟨by omega, h1⟩, h2⟩
      generalize ((downK l.steps i).filter fun j => decide (st ∈ preds l 0 j)) = S at *
      have hA7 : AhAt (upd H6 F (.dK (keysK (downK l.steps i) (heiF l 0 0)))) a bs l := (hA5.eff e6).put naF (by rw [e6 _ _ hF5 (by simp)]; intro xs z; cases z)
      have hF7 : (upd H6 F (.dK (keysK (downK l.steps i) (heiF l 0 0)))) F = some (.dK (keysK (downK l.steps i) (heiF l 0 0))) := upd_same
      have ho7 := (upd_ne (H := H6) (o := .dK (keysK (downK l.steps i) (heiF l 0 0))) noF).trans (e6 _ _ ho5 (by simp))
      have hP7 := (upd_ne (H := H6) (o := .dK (keysK (downK l.steps i) (heiF l 0 0))) npF).trans (e6 _ _ hP5 (by simp))
      have hD7 := (upd_ne (H := H6) (o := .dK (keysK (downK l.steps i) (heiF l 0 0))) nDF).trans hD
      have e7 : Eff [] H (upd H6 F (.dK (keysK (downK l.steps i) (heiF l 0 0)))) := (e5.trans e6).put nF
      generalize (upd H6 F (.dK (keysK (downK l.steps i) (heiF l 0 0)))) = H7 at *
      refine ⟨o, D, _, _, rfl, rfl, ho7, hD7, ?_, fun o3 no3 => ?_⟩
      · rw [nats_len, List.length_map]
        exact Nat.le_trans (show _ ≤ 1000001 by simp; omega) (by decide)
      have em : [V.int 0] ++ nats (S.map (heiF l 0 0)) = (((0 :: S.map (heiF l 0 0)).map fun n : Nat => (n : Int)).map V.int) := by
        rw [← nats_ints]
        rfl
      rw [em]
      refine ⟨o3, _, rfl, .inl (.inl upd_same), by simp, fun m hm hle => ?_⟩
      obtain ⟨k, hk, rfl⟩ := List.mem_map.mp hm
      have hk2 := hei_max2 l hlt hS hk fun y hy => Int.ofNat_le.mp (hle y (List.mem_map.mpr ⟨y, hy, rfl⟩))
      have e8 : Eff [] H7 (upd H7 o3 (.lst (((0 :: S.map (heiF l 0 0)).map fun n : Nat => (n : Int)).map V.int))) := Eff.refl.put no3
      have hF8 := e8 _ _ hF7 (by simp)
      have hA8 := hA7.eff e8
      have hP8 := e8 _ _ hP7 (by simp)
      have e78 := e7.trans e8
      generalize (upd H7 o3 (.lst (((0 :: S.map (heiF l 0 0)).map fun n : Nat => (n : Int)).map V.int))) = H8 at *
      have ek : (1 : Int) + (k : Nat) = (heiF l 0 0 st : Nat) := by omega
      have hnot : st ∉ downK l.steps i := fun z => by
        have := (downK_mem (n := l.steps) (i := i) (by omega)).mp z
        omega
      refine ⟨1, k, rfl, rfl, _, rfl, _, rfl, F, upd H8 F (.dK (keysK (downK l.steps (i + 1)) (heiF l 0 0))), rfl, .inl ⟨_, .inl (st : Int), hF8, rfl, ?_, ?_⟩, _, _, rfl, e78.put nF, ?_, hA8.put naF (by rw [hF8]; intro xs z; cases z), upd_same⟩
      · rw [keysK_len]
        have q3 : (downK l.steps i).length ≤ l.steps := by
          unfold downK
          rw [List.length_take, List.length_reverse, List.length_range]
          omega
        exact Nat.lt_of_lt_of_le (show _ < 1000001 by omega) (by decide)
      · have ep : putK (keysK (downK l.steps i) (heiF l 0 0)) (.inl (st : Int) : L2.Key) (.int ((1 : Int) + (k : Nat))) = keysK (downK l.steps (i + 1)) (heiF l 0 0) := by
          rw [ek, keysK_put hnot, downK_succ hil, show l.steps - 1 - i = st by omega]
        rw [← ep]
      · rw [upd_ne (ne_of hP8 hF8 (by intro z; cases z))]
        exact hP8
  · rintro σ H3 ⟨x2, x3, rfl, e3, hP3, hA3, hF3⟩
    rw [nats_len, List.length_reverse, List.length_range] at hF3
    exact ⟨_, rfl, q H3 F e3 hF3 nF⟩
end
end HK
set_option Elab.async false
set_option linter.all false
set_option maxRecDepth 100000
set_option maxHeartbeats 400000
namespace HK
open PySem PySem.Spec PyProof.Rows L2
theorem lookup_relab {env : Env} : ∀ {names : List (Str × NameKind)} {x : Str}, names.lookup x = some .cell ∨ names.lookup x = some .free →
    (names.map fun (n, k) => if (k == NameKind.free && env.scope.kind == .function && env.kindOf n == some .cell) then (n, NameKind.cell) else (n, k)).lookup x = some .cell ∨
    (names.map fun (n, k) => if (k == NameKind.free && env.scope.kind == .function && env.kindOf n == some .cell) then (n, NameKind.cell) else (n, k)).lookup x = some .free
  | [], _, h => by rcases h with h | h <;> cases h
  | (n, k) :: r, x, h => by
    have ih := @lookup_relab env r x
    rw [List.map_cons]
    by_cases e : x = n
    · subst e
      have hk : k = .cell ∨ k = .free := by
        rcases h with h | h <;> rw [List.lookup_cons, beq_self_eq_true] at h
        · exact .inl (Option.some.inj h)
        · exact .inr (Option.some.inj h)
      simp only
      split
      · exact .inl (by rw [List.lookup_cons, beq_self_eq_true])
      · rcases hk with rfl | rfl
        · exact .inl (by rw [List.lookup_cons, beq_self_eq_true])
        · exact .inr (by rw [List.lookup_cons, beq_self_eq_true])
    · have ne : (x == n) = false := beq_eq_false_iff_ne.mpr e
      have h' : r.lookup x = some .cell ∨ r.lookup x = some .free := by
        rcases h with h | h <;> rw [List.lookup_cons, ne] at h
        · exact .inl h
        · exact .inr h
      have q := ih h'
      simp only
      split
      · rw [List.lookup_cons, ne]; exact q
      · rw [List.lookup_cons, ne]; exact q
/-- a comprehension within a comprehension: the outer one's scope as it stands there -/
theorem blk_in {N : List Str} {sc scope : Scope} {own : List (Str × Nat)} {env : Env} (h : BlkOk N sc scope own) : BlkOk N (relabel sc env) scope own :=
  ⟨h.kind, h.uniq, h.ix, fun y hy e => lookup_relab (h.free y hy e), h.own⟩
theorem anti_len {P : Nat → List Nat} : ∀ {n : Nat} {s : List Nat}, Anti P s → (∀ i ∈ s, i < n) → s.length ≤ n := by
  intro n s h hr
  have go : ∀ (s : List Nat) (k : Nat), Anti P s → (∀ i ∈ s, k ≤ i ∧ i < n) → s.length ≤ n - k := by
    intro s
    induction s with
    | nil => intro k _ _; simp
    | cons x r ih =>
      intro k h hr
      obtain ⟨h1, h2⟩ := List.pairwise_cons.mp h
      have hx := hr x (by simp)
      have q := ih (x + 1) h2 fun i hi => ⟨(h1 i hi).1, (hr i (by simp [hi])).2⟩
      rw [List.length_cons]
      omega
  have := go s 0 h fun i hi => ⟨Nat.zero_le _, hr i hi⟩
  omega
theorem setsF_pos (P : Nat → List Nat) : ∀ n, 0 < (setsF P n).length
  | 0 => by simp [setsF]
  | n + 1 => by
    have := setsF_pos P n
    rw [setsF, List.length_append]
    omega
/-- tuples of numbers -/
def SetsAt (K : PySem.W.Frag) (H : Hp) (ss : List (List Nat)) (ts : List V) : Prop := ts.length = ss.length ∧ ∀ (i : Nat) (s : List Nat) (t : V), ss[i]? = some s → ts[i]? = some t → ∃ a, t = .ref a ∧ SqT K H a (nats s)
section
variable {K : PySem.W.Frag} {M : List Addr} {H H1 : Hp} {ss ss' : List (List Nat)} {ts ts' : List V} {s : List Nat} {a : Addr}
theorem SetsAt.eff (h : SetsAt K H ss ts) (e : Eff M H H1) (li : Lists M H) : SetsAt K H1 ss ts := ⟨h.1, fun i s t q1 q2 => let ⟨a, e1, e2⟩ := h.2 i s t q1 q2; ⟨a, e1, e.seqT li e2⟩⟩
theorem SetsAt.append (h : SetsAt K H ss ts) (h' : SetsAt K H ss' ts') : SetsAt K H (ss ++ ss') (ts ++ ts') := by
  have l := h.1
  refine ⟨by simp [h.1, h'.1], fun i s t q1 q2 => ?_⟩
  by_cases c : i < ss.length
  · rw [List.getElem?_append_left c] at q1
    rw [List.getElem?_append_left (by omega)] at q2
    exact h.2 i s t q1 q2
  · rw [List.getElem?_append_right (by omega)] at q1
    rw [List.getElem?_append_right (by omega), l] at q2
    exact h'.2 _ s t q1 q2
theorem SetsAt.one (h : SqT K H a (nats s)) : SetsAt K H [s] [.ref a] := ⟨rfl, fun i s' t q1 q2 => by
  cases i with
  | zero => cases q1; cases q2; exact ⟨a, rfl, h⟩
  | succ i => simp at q1⟩
theorem SetsAt.get (h : SetsAt K H ss ts) {i : Nat} {t : V} (ht : ts[i]? = some t) : ∃ s a, ss[i]? = some s ∧ t = .ref a ∧ SqT K H a (nats s) := by
  have hi := (List.getElem?_eq_some_iff.mp ht).1
  rw [h.1] at hi
  obtain ⟨a, e1, e2⟩ := h.2 i _ t (List.getElem?_eq_getElem hi) ht
  exact ⟨ss[i], a, List.getElem?_eq_getElem hi, e1, e2⟩
end
def zeros (l : List Nat) : List V := l.map fun _ => V.int 0
theorem filtS_take {p : List Nat → Bool} {l : List (List Nat)} {i : Nat} {j : List Nat} (h : l[i]? = some j) : (l.take (i + 1)).filter p = (l.take i).filter p ++ if p j = true then [j] else [] := by
  rw [List.take_add_one, h, List.filter_append]
  congr 1
  show [j].filter p = _
  by_cases c : p j = true
  · rw [if_pos c, List.filter_cons_of_pos c]; rfl
  · rw [if_neg c, List.filter_cons_of_neg c]; rfl
/-- the scope of the comprehension over the sets -/
def cs_widest : Scope := { kind := ScopeKind.function, names := [(".0", NameKind.local), ("some", NameKind.local), ("ahead", NameKind.free), ("step", NameKind.free)], isGenerator := false, isCoroutine := false }
def rLenS (K : PySem.W.Frag) : List V → Hp → VK → Prop := fun xs H Q => ∃ p ys, xs = [V.ref p] ∧ (SqL K H p ys ∨ SqT K H p ys) ∧ Q (V.int ys.length) H
theorem cr_lenS {X : Cx} : CallR X (.builtin "len") (rLenS X.K) := call_len_seq
section
variable {w : World} {K : PySem.W.Frag} {mg : Str → Option Value} {base : Heap}
def spWidest (K : PySem.W.Frag) : Sp := fun vs H Q _ => ∃ (a : Addr) (bs : List Addr) (l : Lot), vs = [.ref a] ∧ AhAt H a bs l ∧ l.steps ≤ 11 ∧ ∀ H', Eff [] H H' → Q (.int (l.width : Nat)) H'
theorem ok_widest (T : Tx K mg) : Cal PP w K mg base CX0 "_law_widest" 1 ["ahead"] (spWidest K) := by
  refine T.ok_law_widest (fun vs H Q E h => ?_) (fun cdv A outer s H vs Q E hr h => ?_)
  · obtain ⟨a, bs, l, rfl, _⟩ := h
    rfl
  obtain ⟨a, bs, l, rfl, hA, hn, q⟩ := h
  refine ⟨_, (pss_cons (ps_par (i := 1) (j := 2) (by rfl) (sc_law_widest).nd rfl rfl (by decide) rfl rfl (pa_cons pe_int (pa_cons (pe_lst (pa_cons (pe_tup pa_nil) pa_nil)) pa_nil)) (by rfl))
      (pss_cons (ps_for PassesOwn.never rfl (pi_list (pe_callB (cr_sortedDI rfl) (by rfl) T.z_sorted (by decide +kernel) (pa_cons (pv 0) pa_nil))) (pg_name (i := 3) (sc_law_widest).nd rfl (by first | exact Or.inl rfl | exact Or.inr rfl)) (pss_one (ps_set (i := 2) (sc_law_widest).nd rfl (by first | exact Or.inl rfl | exact Or.inr rfl) (pe_op op_cat (pv 2) (pe_lc (own := [("some", 4)]) (g := (gName 4)) (te := (tOp (rCatA K) (tVar 4) (tTup (tCons (tVar 3) tNil)))) (tt := (tTest (tOp (rEqNil K) (tLc (iTup K (tVar 4)) (gName 5) (tTest (tOp (rIn K false) (tVar 5) (tDGet (tVar 0) (tVar 3)))) (tC (.int 0)) [5]) (tLst tNil)))) (by rfl) (sc_law_widest).nd (pi_list (pv 2)) (blkOk_by (own := [("some", 4)]) (N := nm_law_widest) (sc := sp_law_widest) (by decide +kernel)) (fun _ _ _ _ _ => (pg_name (i := 4) (sc_law_widest).nd rfl (by first | exact Or.inl rfl | exact Or.inr rfl))) (fun _ _ _ _ _ => pts_one (pt_cmpR (op_eqNil hr.units0) (pe_lc (own := [("other", 5)]) (g := (gName 5)) (tt := (tTest (tOp (rIn K false) (tVar 5) (tDGet (tVar 0) (tVar 3))))) (by rfl) (sc_law_widest).nd (pi_tup (pv 4)) (blk_in (blkOk_by (own := [("other", 5)]) (N := nm_law_widest) (sc := cs_widest) (by decide +kernel))) (fun _ _ _ _ _ => (pg_name (i := 5) (sc_law_widest).nd rfl (by first | exact Or.inl rfl | exact Or.inr rfl))) (fun _ _ _ _ _ => pts_one (pt_cmpR op_in_seq (pv 5) (pe_dget (hu_of hr) (pv 0) (pv 3) (fun _ _ => rfl)) (by rfl))) (fun _ _ _ _ _ => pe_int)) (pe_lst pa_nil) (nomark _))) (fun _ _ _ _ _ => (pe_op op_catA (pv 4) (pe_tup (pa_cons (pv 3) pa_nil)))))))))
      (pss_one (ps_ret (pe_callB (cr_max rfl) (by rfl) T.z_max (by decide +kernel) (pa_cons (pe_lc (own := [("some", 4)]) (g := (gName 4)) (te := (tCB (rLenS K) (tCons (tVar 4) tNil))) (tt := tYes) (by rfl) (sc_law_widest).nd (pi_list (pv 2)) (blkOk_by (own := [("some", 4)]) (N := nm_law_widest) (sc := sp_law_widest) (by decide +kernel)) (fun _ _ _ _ _ => (pg_name (i := 4) (sc_law_widest).nd rfl (by first | exact Or.inl rfl | exact Or.inr rfl))) (fun _ _ _ _ _ => pts_nil) (fun _ _ _ _ _ => (pe_callB cr_lenS (by rfl) T.z_len (by decide +kernel) (pa_cons (pv 4) pa_nil)))) pa_nil)))))), ?_⟩
  refine ⟨small (by simp), fun e ne => ⟨small (by simp), fun S nS => ?_⟩⟩
  have e1 : Eff [] H (upd H e (.tup [])) := Eff.refl.put ne
  have e2 : Eff [] H (upd (upd H e (.tup [])) S (.lst [.ref e])) := e1.put (e1.free nS (by simp))
  have hS2 : (upd (upd H e (.tup [])) S (.lst [.ref e])) S = some (.lst [.ref e]) := upd_same
  have hs2 : SetsAt K (upd (upd H e (.tup [])) S (.lst [.ref e])) (setsF (preds l 0) 0) [.ref e] := SetsAt.one (s := []) (SqT.of ((upd_ne (ne_of_none upd_same nS)).trans upd_same))
  have hA2 := hA.eff e2
  generalize (upd (upd H e (.tup [])) S (.lst [.ref e])) = H2 at *
  refine ⟨_, _, rfl, _, rfl, a, _, _, rfl, .inl hA2.top, hA2.keys, fun ys p hp hs np => ?_⟩
  rw [sorted_keys hp hs]
  have eP : Eff [] H2 (upd H2 p (.lst (nats (List.range l.steps)))) := Eff.refl.put np
  refine ⟨p, rfl, ⟨_, .inl (.inl upd_same)⟩, ?_⟩
  have hP3 : (upd H2 p (.lst (nats (List.range l.steps)))) p = some (.lst (nats (List.range l.steps))) := upd_same
  have hA3 := hA2.eff eP
  have hS3 := eP _ _ hS2 (by simp)
  have hs3 := hs2.eff eP Lists.nil
  have e3 := e2.trans eP
  generalize (upd H2 p (.lst (nats (List.range l.steps)))) = H3 at *
  refine for_list (K := K) (a := p) (xs := nats (List.range l.steps)) (fun i σ H4 => ∃ S ts x3 x4 x5, σ = [some (.ref a), some (.int 0), some (.ref S), x3, x4, x5] ∧ Eff [] H H4 ∧ H4 p = some (.lst (nats (List.range l.steps))) ∧ AhAt H4 a bs l ∧ H4 S = some (.lst ts) ∧ SetsAt K H4 (setsF (preds l 0) i) ts) ⟨_, _, _, _, _, rfl, e3, hP3, hA3, hS3, hs3⟩ (fun i σ H4 _ ⟨_, _, _, _, _, _, _, h, _⟩ => .inl (.inl h)) ?_ ?_
  · rintro i x σ H4 hi ⟨S, ts, x3, x4, x5, rfl, e4, hP4, hA4, hS4, hs4⟩
    obtain ⟨i', hi', rfl⟩ := nats_get hi
    have hil := (List.getElem?_eq_some_iff.mp hi').1
    rw [List.length_range] at hil
    obtain rfl : i = i' := by
      rw [List.getElem?_range hil] at hi'
      exact Option.some.inj hi'
    have lts := hs4.1
    have lsets := setsF_len (preds l 0) i
    have l2 : 2 ^ i ≤ 2 ^ 11 := Nat.pow_le_pow_right (by decide) (by omega)
    have l3 : (2 : Nat) ^ 11 = 2048 := by decide
    obtain ⟨b, hb1, hb2⟩ := hA4.at hil
    refine ⟨_, rfl, _, rfl, S, rfl, ⟨_, .inl (.inl hS4)⟩, fun D nD => ?_⟩
    refine lc_list (K := K) (a := S) (xs := ts) (fun m H5 => ∃ us, H5 D = some (.lst us) ∧ SetsAt K H5 ((((setsF (preds l 0) i).take m).filter fun s => s.all fun j => !decide (j ∈ preds l 0 i)).map fun s => s ++ [i]) us ∧ Eff [] H4 H5) ⟨[], upd_same, ⟨rfl, fun j s t q => by simp at q⟩, Eff.refl.put nD⟩ (fun m H5 _ ⟨_, _, _, e5⟩ => .inl (.inl (e5 _ _ hS4 (by simp)))) ?_ ?_
    · rintro m x H5 hx ⟨us, hD, hu, e5⟩
      obtain ⟨s, am, hsm, rfl, ham⟩ := (hs4.eff e5 Lists.nil).get hx
      have hA5 := hA4.eff e5
      have hmem := setsF_in (preds l 0) i s (List.mem_of_getElem? hsm)
      have hsl := anti_le l 0 s hmem.1 (fun j hj => ⟨Nat.zero_le _, by have := hmem.2 j hj; omega⟩)
      have hsw : s.length ≤ 11 := by
        have h1 : s.length ≤ i := by
          have := hmem
          exact anti_len hmem.1 hmem.2
        omega
      have hml := (List.getElem?_eq_some_iff.mp hsm).1
      have lus := hu.1
      rw [List.length_map] at lus
      have lf := List.length_filter_le (fun s : List Nat => s.all fun j => !decide (j ∈ preds l 0 i)) ((setsF (preds l 0) i).take m)
      rw [List.length_take] at lf
      refine ⟨rfl, _, rfl, am, rfl, ⟨_, ham⟩, fun D2 nD2 => ?_⟩
      refine lc_tup (K := K) (a := am) (xs := nats s) (fun k H6 => H6 D2 = some (.lst (zeros ((s.take k).filter fun j => decide (j ∈ preds l 0 i)))) ∧ Eff [] H5 H6) ⟨upd_same, Eff.refl.put nD2⟩ (fun k H6 _ h => h.2.seqT0 ham) ?_ ?_
      · rintro k z H6 hz ⟨hD2, e6⟩
        obtain ⟨o, ho, rfl⟩ := nats_get hz
        have hA6 := hA5.eff e6
        have hb2' := e6 _ _ (e5 _ _ hb2 (by simp)) (by simp)
        refine ⟨rfl, _, rfl, _, rfl, _, rfl, a, .ref b, rfl, .inl ⟨_, .inl (i : Int), .inl hA6.top, rfl, hb1.symm⟩, b, _, rfl, .inl (.inl (.inl hb2')), rfl, nats_flat _, _, rfl, ?_⟩
        rw [nats_in, filter_take ho]
        refine ite2 (fun c => ?_) (fun c => ?_)
        · rw [if_pos (by simpa using c)]
          refine ⟨_, hD2, ?_, ?_, e6.put nD2⟩
          · unfold zeros
            rw [List.length_map]
            have q1 := List.length_filter_le (fun j => decide (j ∈ preds l 0 i)) (s.take k)
            rw [List.length_take] at q1
            exact Nat.lt_of_lt_of_le (show _ < 1000001 by omega) (by decide)
          · rw [upd_same]
            unfold zeros
            rw [List.map_append]
            rfl
        · rw [if_neg (by simpa using c), List.append_nil]
          exact ⟨hD2, e6⟩
      · rintro H6 ⟨hD2, e6⟩
        rw [nats_len, List.take_length] at hD2
        refine ⟨small (by simp), fun z nz => ⟨D2, z, _, rfl, rfl, .inl (.inl ((upd_ne (ne_of_none hD2 nz)).trans hD2)), .inl (.inl upd_same), _, rfl, ?_⟩⟩
        have ez : Eff [] H6 (upd H6 z (.lst [])) := Eff.refl.put nz
        have e67 := e6.trans ez
        generalize (upd H6 z (.lst [])) = H7 at *
        have eq : (zeros (s.filter fun j => decide (j ∈ preds l 0 i))).isEmpty = s.all fun j => !decide (j ∈ preds l 0 i) := by
          rw [Bool.eq_iff_iff, List.isEmpty_iff, List.all_eq_true]
          unfold zeros
          rw [List.map_eq_nil_iff, List.filter_eq_nil_iff]
          constructor
          · intro h j hj
            have := h j hj
            simpa using this
          · intro h j hj
            have := h j hj
            simpa using this
        rw [eq, filtS_take hsm]
        refine ite2 (fun c => ?_) (fun c => ?_)
        · rw [if_pos c, List.map_append]
          have ham7 := e67.seqT0 ham
          have hD7 := e67 _ _ hD (by simp)
          have hu7 := hu.eff e67 Lists.nil
          have fin : ∀ (H8 : Hp) (t : Addr), Eff [] H7 H8 → SqT K H8 t (nats (s ++ [i])) → ∃ acc, H8 D = some (.lst acc) ∧ acc.length < sizeLine ∧ ∃ us, (upd H8 D (.lst (acc ++ [.ref t]))) D = some (.lst us) ∧ SetsAt K (upd H8 D (.lst (acc ++ [.ref t]))) ((((setsF (preds l 0) i).take m).filter fun s => s.all fun j => !decide (j ∈ preds l 0 i)).map (fun s => s ++ [i]) ++ [s].map fun s => s ++ [i]) us ∧ Eff [] H4 (upd H8 D (.lst (acc ++ [.ref t]))) := by
            intro H8 t e8 ht
            have hD8 := e8 _ _ hD7 (by simp)
            have eD : Eff [D] H8 (upd H8 D (.lst (us ++ [.ref t]))) := Eff.refl.set (by simp)
            exact ⟨us, hD8, Nat.lt_of_lt_of_le (show us.length < 1000001 by omega) (by decide), us ++ [V.ref t], upd_same, SetsAt.eff (ss := _ ++ [s].map fun s => s ++ [i]) ((hu7.eff e8 Lists.nil).append (SetsAt.one ht)) eD (Lists.one hD8 rfl), ((e5.trans e67).trans e8).put nD⟩
          refine ⟨_, rfl, _, rfl, small (by simp), fun t nt => ?_⟩
          have et : Eff [] H7 (upd H7 t (.tup [.int (i : Nat)])) := Eff.refl.put nt
          refine ⟨am, t, nats s, [.int (i : Nat)], rfl, rfl, et.seqT0 ham7, SqT.of upd_same, ?_, fun hs0 => ?_, fun _ z => (by cases z), fun _ _ t2 nt2 => ?_⟩
          · rw [nats_len]
            exact Nat.le_trans (show _ ≤ 1000001 by simp; omega) (by decide)
          · have s0 : s = [] := by
              unfold nats at hs0
              exact List.map_eq_nil_iff.mp hs0
            refine fin _ t et ?_
            rw [s0]
            exact SqT.of upd_same
          · refine fin _ t2 (et.put (et.free nt2 (by simp))) ?_
            rw [nats_append]
            exact SqT.of upd_same
        · rw [if_neg c, List.append_nil]
          exact ⟨us, e67 _ _ hD (by simp), hu.eff e67 Lists.nil, e5.trans e67⟩
    · rintro H5 ⟨us, hD, hu, e5⟩
      rw [lts, List.take_length] at hu
      have hS5 := e5 _ _ hS4 (by simp)
      have lus := hu.1
      rw [List.length_map] at lus
      have lf := List.length_filter_le (fun s : List Nat => s.all fun j => !decide (j ∈ preds l 0 i)) (setsF (preds l 0) i)
      refine ⟨S, D, ts, us, rfl, rfl, hS5, hD, Nat.le_trans (show _ ≤ 1000001 by omega) (by decide), fun Z nZ => ?_⟩
      have eZ : Eff [] H5 (upd H5 Z (.lst (ts ++ us))) := Eff.refl.put nZ
      exact ⟨Z, ts ++ us, _, _, _, rfl, (e4.trans e5).trans eZ, eZ _ _ (e5 _ _ hP4 (by simp)) (by simp), (hA4.eff e5).eff eZ, upd_same, ((hs4.eff e5 Lists.nil).append hu).eff eZ Lists.nil⟩
  · rintro σ H4 ⟨S, ts, x3, x4, x5, rfl, e4, hP4, hA4, hS4, hs4⟩
    rw [nats_len, List.length_range] at hs4
    have lts := hs4.1
    have lsets := setsF_len (preds l 0) l.steps
    have l2 : 2 ^ l.steps ≤ 2 ^ 11 := Nat.pow_le_pow_right (by decide) (by omega)
    have l3 : (2 : Nat) ^ 11 = 2048 := by decide
    refine ⟨_, rfl, S, rfl, ⟨_, .inl (.inl hS4)⟩, fun D nD => ?_⟩
    refine lc_list (K := K) (a := S) (xs := ts) (fun m H5 => H5 D = some (.lst (nats (((setsF (preds l 0) l.steps).take m).map List.length))) ∧ Eff [] H4 H5) ⟨upd_same, Eff.refl.put nD⟩ (fun m H5 _ h => .inl (.inl (h.2 _ _ hS4 (by simp)))) ?_ ?_
    · rintro m x H5 hx ⟨hD, e5⟩
      obtain ⟨s, am, hsm, rfl, ham⟩ := (hs4.eff e5 Lists.nil).get hx
      have hml := (List.getElem?_eq_some_iff.mp hsm).1
      refine ⟨rfl, yes_go ⟨_, rfl, am, nats s, rfl, .inr ham, _, hD, ?_, ?_, e5.put nD⟩⟩
      · rw [nats_len, List.length_map, List.length_take]
        exact Nat.lt_of_lt_of_le (show _ < 1000001 by omega) (by decide)
      · rw [upd_same, List.take_add_one, hsm, List.map_append, nats_append, nats_len]
        rfl
    · rintro H5 ⟨hD, e5⟩
      rw [lts, List.take_length] at hD
      refine ⟨D, _, rfl, .inl (.inl (by rw [hD, nats_ints])), ?_, fun m hm hle => ?_⟩
      · obtain ⟨s, hs, _⟩ := anti_ex l 0
        have := setsF_pos (preds l 0) l.steps
        simp
        omega
      · obtain ⟨k, hk, rfl⟩ := List.mem_map.mp hm
        rw [setsF_max l hk fun y hy => Int.ofNat_le.mp (hle y (List.mem_map.mpr ⟨y, hy, rfl⟩))]
        exact q H5 (e4.trans e5)
end
end HK
set_option Elab.async false
set_option linter.all false
set_option maxRecDepth 100000
set_option maxHeartbeats 400000
namespace HK
open PySem PySem.Spec PyProof.Rows L2
theorem cut_first (ns : List Int) (n : Nat) : cutV (ns.map V.int) none (some (n : Int)) = (ns.take n).map V.int := by
  unfold cutV
  rw [HT.sIx_none, HT.sIx_nat]
  simp only [List.drop_zero, Nat.sub_zero, List.length_map]
  rw [← List.map_take]
  congr 1
  rw [List.take_eq_take_iff]
  omega
theorem ints_get {l : List Int} {i : Nat} {v : V} (h : (l.map V.int)[i]? = some v) : ∃ n, l[i]? = some n ∧ v = .int n := by
  rw [List.getElem?_map] at h
  cases q : l[i]? with
  | none => rw [q] at h; cases h
  | some n => rw [q] at h; exact ⟨n, rfl, (Option.some.inj h).symm⟩
section
variable {w : World} {K : PySem.W.Frag} {mg : Str → Option Value} {base : Heap}
def spDraw (K : PySem.W.Frag) : Sp := fun vs H Q _ => ∃ (a : Addr) (ns : List Int) (k : Nat), vs = [.ref a, .int (k : Nat)] ∧ k < 1000 ∧ SqL K H a (ns.map V.int) ∧ ∀ H' d l, Eff [] H H' → DealAt H' d l → H d = none → H l = none → Q (.ref d) H'
theorem ok_draw (T : Tx K mg) : Cal PP w K mg base CX0 "_law_draw" 1 ["script", "salt"] (spDraw K) := by
  refine T.ok_law_draw (fun vs H Q E h => ?_) (fun cdv A outer s H vs Q E hr h => ?_)
  · obtain ⟨a, ns, k, rfl, _⟩ := h
    rfl
  obtain ⟨a, ns, k, rfl, hk, ha, q⟩ := h
  refine ⟨_, (pss_cons (ps_setLc (i := 2) (own := [("cell", 4)]) (g := (gName 4)) (tt := tYes) (by rfl) (sc_law_draw).nd rfl rfl (sw_true rfl rfl rfl (by decide +kernel)) (pi_list (pe_slice sl_list (pv 0) po_none (po_some pe_int))) (blkOk_by (own := [("cell", 4)]) (N := nm_law_draw) (sc := sp_law_draw) (by decide +kernel)) (fun _ _ _ _ _ => (pg_name (i := 4) (sc_law_draw).nd rfl (by first | exact Or.inl rfl | exact Or.inr rfl))) (fun _ _ _ _ _ => pts_nil) (fun _ _ _ _ _ => (pe_op op_mod (pe_callB call_abs (by rfl) T.z_abs (by decide +kernel) (pa_cons (pe_callTy call_int1 (by rfl) T.z_int (by decide +kernel) (pa_cons (pv 4) pa_nil)) pa_nil)) (pe_op op_pow pe_int pe_int))))
      (pss_cons (ps_set (i := 3) (sc_law_draw).nd rfl (by first | exact Or.inl rfl | exact Or.inr rfl) (pe_op op_add pe_int (pe_op op_mul pe_int (pv 1))))
      (pss_cons (ps_for PassesOwn.never rfl (pi_list (pv 2)) (pg_name (i := 4) (sc_law_draw).nd rfl (by first | exact Or.inl rfl | exact Or.inr rfl)) (pss_one (ps_set (i := 3) (sc_law_draw).nd rfl (by first | exact Or.inl rfl | exact Or.inr rfl) (pe_op op_mod (pe_callTy call_int1 (by rfl) T.z_int (by decide +kernel) (pa_cons (pe_op op_add (pe_op op_add (pe_op op_mul (pv 3) pe_int) (pe_op op_mod (pv 4) pe_int)) pe_int) pa_nil)) pe_int))))
      (pss_one (ps_ret (pe_lst (pa_cons (pe_revL (pe_lc (own := [("cell", 4)]) (g := (gName 4)) (tt := (tTest (tOp (rI0 fun i j => .bl (decide (j ≤ i))) (tVar 4) (tOp (rI CPow fun i j => .int (i ^ j.toNat)) (tC (.int 10)) (tC (.int 18)))))) (by rfl) (sc_law_draw).nd (pi_list (pv 2)) (blkOk_by (own := [("cell", 4)]) (N := nm_law_draw) (sc := sp_law_draw) (by decide +kernel)) (fun _ _ _ _ _ => (pg_name (i := 4) (sc_law_draw).nd rfl (by first | exact Or.inl rfl | exact Or.inr rfl))) (fun _ _ _ _ _ => pts_one (pt_cmpR op_ge (pv 4) (pe_op op_pow pe_int pe_int) (nomark _))) (fun _ _ _ _ _ => (pv 4)))) (pa_cons (pv 3) pa_nil)))))))), ?_⟩
  -- cells = [abs(int(cell)) % 10 ** 60 for cell in script[:48]]
  refine ⟨_, rfl, 48, rfl, a, _, rfl, ha, fun c0 nc0 => ?_⟩
  have ec : cutV (ns.map V.int) none (some 48) = (ns.take 48).map V.int := cut_first ns 48
  rw [ec]
  have e0 : Eff [] H (upd H c0 (.lst ((ns.take 48).map V.int))) := Eff.refl.put nc0
  have hc0 : (upd H c0 (.lst ((ns.take 48).map V.int))) c0 = some (.lst ((ns.take 48).map V.int)) := upd_same
  have l48 : (ns.take 48).length ≤ 48 := by rw [List.length_take]; omega
  generalize (upd H c0 (.lst ((ns.take 48).map V.int))) = H0 at *
  generalize ns.take 48 = xs at *
  refine ⟨c0, rfl, ⟨_, .inl (.inl hc0)⟩, fun C nC => ?_⟩
  refine lc_list (K := K) (a := c0) (xs := xs.map V.int) (fun i H1 => ∃ cs : List Int, cs.length = i ∧ H1 C = some (.lst (cs.map V.int)) ∧ Eff [] H0 H1) ⟨[], rfl, upd_same, Eff.refl.put nC⟩ (fun i H1 _ ⟨_, _, _, e1⟩ => .inl (.inl (e1 _ _ hc0 (by simp)))) ?_ ?_
  · rintro i v H1 hi ⟨cs, rfl, hC, e1⟩
    obtain ⟨n, hn, rfl⟩ := ints_get hi
    have hil := (List.getElem?_eq_some_iff.mp hn).1
    refine ⟨rfl, yes_go ⟨_, rfl, .inl ⟨_, rfl, _, rfl, 10, 60, rfl, rfl, ⟨by decide, by decide, by decide⟩, _, _, rfl, rfl, (by show (0 : Int) < 10 ^ (60 : Int).toNat; decide), _, hC, ?_, cs ++ [(if n < 0 then -n else n) % 10 ^ (60 : Int).toNat], by simp, ?_, e1.put nC⟩⟩⟩
    · rw [List.length_map]
      exact Nat.lt_of_lt_of_le (show _ < 1000001 by omega) (by decide)
    · rw [upd_same, List.map_append]
      rfl
  · rintro H1 ⟨cs, lcs, hC, e1⟩
    rw [List.length_map] at lcs
    -- blend = 7919 + 104729 * salt
    refine ⟨_, rfl, _, _, rfl, rfl, .inl (by decide), _, _, rfl, rfl, ?_⟩
    -- for cell in cells
    refine ⟨_, rfl, C, rfl, ⟨_, .inl (.inl hC)⟩, ?_⟩
    refine for_list (K := K) (a := C) (xs := cs.map V.int) (fun i σ H2 => (∃ b x4, σ = [some (.ref a), some (.int (k : Nat)), some (.ref C), some (.int b), x4]) ∧ Eff [] H1 H2) ⟨⟨_, _, rfl⟩, Eff.refl⟩ (fun i σ H2 _ ⟨_, e2⟩ => .inl (.inl (e2 _ _ hC (by simp)))) ?_ ?_
    · rintro i v σ H2 hi ⟨⟨b, x4, rfl⟩, e2⟩
      obtain ⟨n, hn, rfl⟩ := ints_get hi
      refine ⟨_, rfl, _, _, rfl, rfl, .inr (by decide), _, rfl, _, _, rfl, rfl, (by show (0 : Int) < 2147483549; decide), _, _, rfl, rfl, _, _, rfl, rfl, .inl ⟨_, rfl, _, _, rfl, rfl, (by show (0 : Int) < 2147483647; decide), ⟨_, _, rfl⟩, e2⟩⟩
    · rintro σ H2 ⟨⟨b, x4, rfl⟩, e2⟩
      have hC2 := e2 _ _ hC (by simp)
      -- [[cell for cell in cells if cell >= 10 ** 18][::-1], blend]
      refine ⟨_, rfl, C, rfl, ⟨_, .inl (.inl hC2)⟩, fun D nD => ?_⟩
      refine lc_list (K := K) (a := C) (xs := cs.map V.int) (fun i H3 => ∃ ds : List Int, ds.length ≤ i ∧ H3 D = some (.lst (ds.map V.int)) ∧ Eff [] H2 H3) ⟨[], Nat.le_refl _, upd_same, Eff.refl.put nD⟩ (fun i H3 _ ⟨_, _, _, e3⟩ => .inl (.inl (e3 _ _ hC2 (by simp)))) ?_ ?_
      · rintro i v H3 hi ⟨ds, ld, hD, e3⟩
        obtain ⟨n, hn, rfl⟩ := ints_get hi
        have hil := (List.getElem?_eq_some_iff.mp hn).1
        refine ⟨rfl, _, rfl, 10, 18, rfl, rfl, ⟨by decide, by decide, by decide⟩, _, _, rfl, rfl, _, rfl, ite2 (fun c => ?_) (fun c => ⟨ds, by omega, hD, e3⟩)⟩
        refine ⟨_, rfl, _, hD, ?_, ds ++ [n], by simp; omega, ?_, e3.put nD⟩
        · rw [List.length_map]
          exact Nat.lt_of_lt_of_le (show _ < 1000001 by omega) (by decide)
        · rw [upd_same, List.map_append]
          rfl
      · rintro H3 ⟨ds, ld, hD, e3⟩
        rw [List.length_map] at ld
        refine ⟨D, _, rfl, .inl (.inl hD), fun R nR => ?_⟩
        refine ⟨_, rfl, small (by simp), fun Z nZ => ?_⟩
        have e1H : Eff [] H H2 := (e0.trans e1).trans e2
        have e3H := e1H.trans e3
        have eR : Eff [] H (upd H3 R (.lst (ds.map V.int).reverse)) := e3H.put (e3H.free nR (by simp))
        refine q _ Z R (eR.put (eR.free nZ (by simp))) ⟨ds.reverse, b, upd_same, ?_, by rw [List.length_reverse]; omega⟩ (eR.free nZ (by simp)) (e3H.free nR (by simp))
        rw [upd_ne (ne_of_none (H := upd H3 R (.lst (ds.map V.int).reverse)) upd_same nZ), upd_same, List.map_reverse]
end
end HK
set_option Elab.async false
set_option linter.all false
set_option maxRecDepth 100000
set_option maxHeartbeats 400000
namespace HK
open PySem PySem.Spec PyProof.Rows L2
/-- zip of two tuples -/
theorem walk_zipT {K : PySem.W.Frag} {a b : Addr} {xs ys : List V} {n : Nat} (hn : n = min xs.length ys.length) : Walk (RZ.ItzT K a b) n (fun H => SqT K H a xs ∧ SqT K H b ys) (YPair (fun i => xs[i]?) (fun i => ys[i]?)) := by
  refine ⟨fun i H hi q => ?_, fun H q => ⟨xs, ys, q.1, q.2, by omega⟩, fun i H v H' hi q y => ?_⟩
  · have e1 := List.getElem?_eq_getElem (show i < xs.length by omega)
    have e2 := List.getElem?_eq_getElem (show i < ys.length by omega)
    exact ⟨xs, ys, _, _, q.1, q.2, e1, e2⟩
  · obtain ⟨T, x, z, h1, h2, h3, h4, h5⟩ := y
    exact ⟨T, x, z, h1, h2, h3, h4 xs q.1, h5 ys q.2⟩
/-- data without dicts, nested less than n deep -/
def okD : Nat → PyData → Prop
  | 0, _ => False
  | n + 1, .list ds => ∀ d ∈ ds, okD n d
  | n + 1, .tuple ds => ∀ d ∈ ds, okD n d
  | _ + 1, .dict _ => False
  | _ + 1, _ => True
def seqD (d : PyData) : Bool := tyN d == "tuple" || tyN d == "list"
section
variable {w : World} {K : PySem.W.Frag} {mg : Str → Option Value} {base : Heap}
theorem kit_list (d : PyData) : PySem.W.kitOne K (.type (tyN d)) (.type "list") = some (tyN d == "list") := by
  cases d with
  | none => exact kit_ty (by decide +kernel : kitB "NoneType" "list" = some ("NoneType" == "list"))
  | bool b => exact kit_ty (by decide +kernel : kitB "bool" "list" = some ("bool" == "list"))
  | int b => exact kit_ty (by decide +kernel : kitB "int" "list" = some ("int" == "list"))
  | str b => exact kit_ty (by decide +kernel : kitB "str" "list" = some ("str" == "list"))
  | list b => exact kit_ty (by decide +kernel : kitB "list" "list" = some ("list" == "list"))
  | tuple b => exact kit_ty (by decide +kernel : kitB "tuple" "list" = some ("tuple" == "list"))
  | dict b => exact kit_ty (by decide +kernel : kitB "dict" "list" = some ("dict" == "list"))
theorem kit_tl (d : PyData) : PySem.W.kitAny K (.type (tyN d)) [.type "tuple", .type "list"] = some (seqD d) :=
  kitAny_cons (kit_tup d) (fun h1 => kitAny_cons (kit_list d) (fun h2 => by unfold seqD; rw [h1, h2]; rfl) fun h2 => by unfold seqD; rw [h2, Bool.or_true]) fun h1 => by unfold seqD; rw [h1]; rfl
/-- isinstance(x, (tuple, list)) -/
theorem isi_tl {M : List Addr} {H : Hp} {d : PyData} {v : V} {i : Nat} {σ : L2.St} {Q : VK} (hσ : σ[i]? = some (some v)) (h : At K M H d v) (q : ∀ H', Eff [] H H' → Q (.bl (seqD d)) H') :
    tCB (rIsiT K) (tCons (tVar i) (tCons (tTup (tCons (tC (.ty "tuple")) (tCons (tC (.ty "list")) tNil))) tNil)) σ H Q := by
  refine ⟨_, hσ, small (by simp), fun t nt => ⟨_, t, _, _, _, _, rfl, upd_same, .cons (.ty _) (.cons (.ty _) .nil), At.ty (At.new nt h), kit_tl d, q _ (Eff.refl.put nt)⟩⟩
theorem At.sc {M : List Addr} {H : Hp} {d : PyData} {v : V} (h : At K M H d v) (n : seqD d = false) (nd : ∀ kvs, d ≠ .dict kvs) : flatV v = true := by
  cases d with
  | none => rw [show v = V.non from h]; rfl
  | bool b => rw [show v = V.bl b from h]; rfl
  | int i => rw [show v = V.int i from h]; rfl
  | str x => rw [show v = V.str x from h]; rfl
  | list ds => cases n
  | tuple ds => cases n
  | dict kvs => exact absurd rfl (nd kvs)
theorem seq_ifB {t : TE} {a b u : TS} {D : Ends} {σ : L2.St} {H : Hp} (h : t σ H fun x H1 => ∃ d, x = .bl d ∧ if d = true then a { D with nx := u D } σ H1 else b { D with nx := u D } σ H1) : tSeq (tIfS (tB t) a b) u D σ H := h
/-- two lists, or two tuples -/
def SqB (K : PySem.W.Frag) (H : Hp) (a b : Addr) (xs ys : List V) : Prop := (SqL K H a xs ∧ SqL K H b ys) ∨ (SqT K H a xs ∧ SqT K H b ys)
theorem SqB.eff {H H1 : Hp} {a b : Addr} {xs ys : List V} (h : SqB K H a b xs ys) (e : Eff [] H H1) : SqB K H1 a b xs ys := by
  rcases h with ⟨h1, h2⟩ | ⟨h1, h2⟩
  · exact .inl ⟨e.seqL (by simp) h1, e.seqL (by simp) h2⟩
  · exact .inr ⟨e.seqT0 h1, e.seqT0 h2⟩
theorem SqB.l {H : Hp} {a b : Addr} {xs ys : List V} (h : SqB K H a b xs ys) : SqL K H a xs ∨ SqT K H a xs := h.elim (fun h => .inl h.1) fun h => .inr h.1
theorem SqB.r {H : Hp} {a b : Addr} {xs ys : List V} (h : SqB K H a b xs ys) : SqL K H b ys ∨ SqT K H b ys := h.elim (fun h => .inl h.2) fun h => .inr h.2
theorem _root_.L2.At.eff0 {H H1 : Hp} {d : PyData} {v : V} (h : At K [] H d v) (e : Eff [] H H1) : At K [] H1 d v := At.eff e Lists.nil (fun _ z => z) d v h
theorem _root_.L2.AtL.eff0 {H H1 : Hp} {d : List PyData} {v : List V} (h : AtL K [] H d v) (e : Eff [] H H1) : AtL K [] H1 d v := AtL.eff e Lists.nil (fun _ z => z) d v h
theorem sq_inv {n : Nat} {H : Hp} {d : PyData} {x y : V} (hs : seqD d = true) (ok : okD (n + 1) d) (hx : At K [] H d x) (hy : At K [] H d y) : ∃ a b xs ys ds, x = .ref a ∧ y = .ref b ∧ SqB K H a b xs ys ∧ AtL K [] H ds xs ∧ AtL K [] H ds ys ∧ ∀ d ∈ ds, okD n d := by
  cases d with
  | list ds =>
    obtain ⟨a, xs, rfl, ha, _, hxs⟩ := hx
    obtain ⟨b, ys, rfl, hb, _, hys⟩ := hy
    exact ⟨a, b, xs, ys, ds, rfl, rfl, .inl ⟨.inl (.inl ha), .inl (.inl hb)⟩, hxs, hys, ok⟩
  | tuple ds =>
    obtain ⟨a, xs, rfl, ha, hxs⟩ := hx
    obtain ⟨b, ys, rfl, hb, hys⟩ := hy
    exact ⟨a, b, xs, ys, ds, rfl, rfl, .inr ⟨ha, hb⟩, hxs, hys, ok⟩
  | _ => cases hs
/-- two that hold one datum are told to be the same -/
def spSame (K : PySem.W.Frag) (n : Nat) : Sp := fun vs H Q _ => ∃ (x y : V) (d : PyData), vs = [x, y] ∧ okD n d ∧ At K [] H d x ∧ At K [] H d y ∧ ∀ H', Eff [] H H' → Q (.bl true) H'
theorem ok_same (T : Tx K mg) : ∀ n, Cal PP w K mg base CX0 "_law_same" (n + 1) ["value", "due"] (spSame K n)
  | 0 => T.ok_law_same (fun vs H Q E h => by obtain ⟨x, y, d, rfl, _⟩ := h; rfl) (fun cdv A outer s H vs Q E hr h => by
      obtain ⟨x, y, d, rfl, z, _⟩ := h
      exact absurd z id)
  | n + 1 => by
    have c_law_same := ok_same T n
    refine T.ok_law_same (fun vs H Q E h => ?_) (fun cdv A outer s H vs Q E hr h => ?_)
    · obtain ⟨x, y, d, rfl, _⟩ := h
      rfl
    obtain ⟨x, y, d, rfl, ok, hx, hy, q⟩ := h
    refine ⟨_, (pss_cons (ps_if (pt_val (pe_callB call_isiT (by rfl) T.z_isinstance (by decide +kernel) (pa_cons (pv 1) (pa_cons (pe_tup (pa_cons (pe_bltn (v := .ty "tuple") rfl T.z_tuple (by decide +kernel) rfl) (pa_cons (pe_bltn (v := .ty "list") rfl T.z_list (by decide +kernel) rfl) pa_nil))) pa_nil)))) (pss_cons (ps_if (PW.pt (pw_or (pt_cmpR op_ne (pe_callB call_isi (by rfl) T.z_isinstance (by decide +kernel) (pa_cons (pv 1) (pa_cons (pe_bltn (v := .ty "tuple") rfl T.z_tuple (by decide +kernel) rfl) pa_nil))) (pe_callB call_isi (by rfl) T.z_isinstance (by decide +kernel) (pa_cons (pv 0) (pa_cons (pe_bltn (v := .ty "tuple") rfl T.z_tuple (by decide +kernel) rfl) pa_nil))) (nomark _)) (pw_or (pt_not (pt_val (pe_callB call_isiT (by rfl) T.z_isinstance (by decide +kernel) (pa_cons (pv 0) (pa_cons (pe_tup (pa_cons (pe_bltn (v := .ty "tuple") rfl T.z_tuple (by decide +kernel) rfl) (pa_cons (pe_bltn (v := .ty "list") rfl T.z_list (by decide +kernel) rfl) pa_nil))) pa_nil))))) (pw_or1 (pt_cmpR op_ne (pe_callB call_len_seq (by rfl) T.z_len (by decide +kernel) (pa_cons (pv 0) pa_nil)) (pe_callB call_len_seq (by rfl) T.z_len (by decide +kernel) (pa_cons (pv 1) pa_nil)) (nomark _)))))) (pss_one (ps_ret pe_bl)) pss_nil)
      (pss_one (ps_ret (pe_cmpR (op_eqNil hr.units0) (pe_lc (own := [("one", 2), ("other", 3)]) (g := (gTup K 2 (gCons (gName 2) (gCons (gName 3) gNil)))) (tt := (tNot (tB (tCall (spSame K n) [] E0 (tCons (tVar 2) (tCons (tVar 3) tNil)))))) (by rfl) (sc_law_same).nd (RZ.pi_zipA (by rfl) T.z_zip (pa_cons (pv 0) (pa_cons (pv 1) pa_nil))) (blkOk_by (own := [("one", 2), ("other", 3)]) (N := nm_law_same) (sc := sp_law_same) (by decide +kernel)) (fun _ _ _ _ _ => (pg_tup rfl (pgs_cons (pg_name (i := 2) (sc_law_same).nd rfl (by first | exact Or.inl rfl | exact Or.inr rfl)) (pgs_cons (pg_name (i := 3) (sc_law_same).nd rfl (by first | exact Or.inl rfl | exact Or.inr rfl)) pgs_nil)))) (fun _ _ _ _ _ => pts_one (pt_not (pt_val (pe_c c_law_same (hr.mono (by first | decide | omega)) pass0 (pa_cons (pv 2) (pa_cons (pv 3) pa_nil)))))) (fun _ _ _ _ _ => pe_int)) (pe_lst pa_nil) (nomark _))))) pss_nil)
      (pss_cons (ps_if (pt_cmpR op_isN (pv 1) pe_non (nomark _)) (pss_one (ps_ret (pe_cmpR op_isN (pv 0) pe_non (nomark _)))) pss_nil)
      (pss_cons (ps_if (pt_cmpR op_isP (pv 1) pe_bl (nomark _)) (pss_one (ps_ret (pe_cmpR op_isP (pv 0) pe_bl (nomark _)))) pss_nil)
      (pss_cons (ps_if (pt_cmpR op_isP (pv 1) pe_bl (nomark _)) (pss_one (ps_ret (pe_cmpR op_isP (pv 0) pe_bl (nomark _)))) pss_nil)
      (pss_cons (ps_if (pt_val (pe_callB call_isi (by rfl) T.z_isinstance (by decide +kernel) (pa_cons (pv 1) (pa_cons (pe_bltn (v := .ty "int") rfl T.z_int (by decide +kernel) rfl) pa_nil)))) (pss_one (ps_ret (pe_and (pe_callB call_isi (by rfl) T.z_isinstance (by decide +kernel) (pa_cons (pv 0) (pa_cons (pe_bltn (v := .ty "int") rfl T.z_int (by decide +kernel) rfl) pa_nil))) (pe_and (pe_not (pe_callB call_isi (by rfl) T.z_isinstance (by decide +kernel) (pa_cons (pv 0) (pa_cons (pe_bltn (v := .ty "bool") rfl T.z_bool (by decide +kernel) rfl) pa_nil)))) (pe_one (pe_cmpR op_eq (pv 0) (pv 1) (nomark _))))))) pss_nil)
      (pss_one (ps_ret (pe_and (pe_callB call_isi (by rfl) T.z_isinstance (by decide +kernel) (pa_cons (pv 0) (pa_cons (pe_bltn (v := .ty "str") rfl T.z_str (by decide +kernel) rfl) pa_nil))) (pe_one (pe_cmpR op_eq (pv 0) (pv 1) (nomark _))))))))))), ?_⟩
    dsimp only
    refine seq_ifB ?_
    refine isi_tl rfl hy fun H1 e1 => ⟨_, rfl, ?_⟩
    have hx1 := hx.eff0 e1
    have hy1 := hy.eff0 e1
    cases hs : seqD d with
    | true =>
      obtain ⟨a, b, xs, ys, ds, rfl, rfl, hB, hxs, hys, okds⟩ := sq_inv hs ok hx1 hy1
      refine iteT ⟨_, rfl, _, _, _, _, _, rfl, .ty _, At.ty hy1, kit_tup d, _, rfl, _, _, _, _, _, rfl, .ty _, At.ty hx1, kit_tup d, rfl, _, rfl, ite2 (fun z => absurd z (by simp)) fun _ => ?_⟩
      refine ⟨_, rfl, small (by simp), fun t nt => ⟨_, t, _, _, _, _, rfl, upd_same, .cons (.ty _) (.cons (.ty _) .nil), At.ty (At.new nt hx1), kit_tl d, _, rfl, ?_⟩⟩
      rw [hs]
      have et : Eff [] H1 (upd H1 t (.tup [.ty "tuple", .ty "list"])) := Eff.refl.put nt
      have hB2 := hB.eff et
      have hxs2 := hxs.eff0 et
      have hys2 := hys.eff0 et
      have e2 := e1.trans et
      generalize (upd H1 t (.tup [.ty "tuple", .ty "list"])) = H2 at *
      have lxs := AtL.length hxs
      have lys := AtL.length hys
      refine iteF ⟨_, rfl, a, xs, rfl, hB2.l, _, rfl, b, ys, rfl, hB2.r, rfl, _, rfl, ite2 (fun z => absurd z (by rw [lxs, lys]; simp)) fun _ => ?_⟩
      -- [0 for one, other in zip(value, due) if not _law_same(one, other)] == []
      have body : ∀ {J : It} {G : Hp → Prop}, Walk J ds.length G (YPair (fun i => xs[i]?) (fun i => ys[i]?)) → (∀ H3, Eff [] H2 H3 → G H3) → ∀ D, H2 D = none → ∃ W : Nat → Nat → Hp → Prop, (∃ m, W 0 m (upd H2 D (.lst []))) ∧ ∀ i m H, W i m H →
          (J.stop i H ∧ (H D = some (.lst []) ∧ Eff [] H2 H)) ∨ (J.go i H ∧ ∃ Nx : Hp → Prop, (∀ H', Nx H' → ∃ m', m' < m ∧ W (i + 1) m' H') ∧ ∀ x H', J.yld i H x H' → (gTup K 2 (gCons (gName 2) (gCons (gName 3) gNil))) x (wipe [some (.ref a), some (.ref b), none, none] [2, 3]) H' fun σ2 H2 => wipe σ2 [2, 3] = wipe [some (.ref a), some (.ref b), none, none] [2, 3] ∧ (tNot (tB (tCall (spSame K n) [] E0 (tCons (tVar 2) (tCons (tVar 3) tNil))))) σ2 H2 fun b H3 =>
            if b = true then (tC (.int 0)) σ2 H3 fun y H4 => ∃ acc, H4 D = some (.lst acc) ∧ acc.length < sizeLine ∧ Nx (upd H4 D (.lst (acc ++ [y]))) else Nx H3) := by
        intro J G wk hG D nD
        refine lc_it wk (fun i H3 => H3 D = some (.lst []) ∧ Eff [] H2 H3) ⟨upd_same, Eff.refl.put nD⟩ (fun i H3 _ h => hG H3 h.2) ?_ (fun H3 h => h)
        rintro i z H3 H3' hi ⟨hD, e3⟩ ⟨T1, u, v, rfl, nT, rfl, hu, hv⟩
        have eT : Eff [] H3 (upd H3 T1 (.tup [u, v])) := Eff.refl.put nT
        obtain ⟨d1, hd1, au⟩ := AtL.get (hxs2.eff0 (e3.trans eT)) hu
        obtain ⟨d2, hd2, av⟩ := AtL.get (hys2.eff0 (e3.trans eT)) hv
        rw [hd1] at hd2
        cases hd2
        refine ⟨T1, [u, v], rfl, .inl (.inl upd_same), rfl, _, _, rfl, _, _, rfl, rfl, rfl, _, rfl, _, rfl, u, v, d1, rfl, okds d1 (List.mem_of_getElem? hd1), au, av, fun H4 e4 => ⟨_, rfl, iteF ⟨e4 _ _ (eT _ _ hD (by simp)) (by simp), (e3.trans eT).trans e4⟩⟩⟩
      have fin : ∀ H3 D, H3 D = some (.lst []) → Eff [] H2 H3 → ∀ (z : Addr), H3 z = none → rEqNil K (.ref D) (.ref z) (upd H3 z (.lst [])) Q := fun H3 D hD e3 z nz =>
        ⟨D, z, [], rfl, rfl, .inl (.inl ((upd_ne (ne_of_none hD nz)).trans hD)), .inl (.inl upd_same), q _ ((e2.trans e3).put ((e2.trans e3).free nz (by simp)))⟩
      rcases hB2 with ⟨ha, hb⟩ | ⟨ha, hb⟩
      · refine ⟨_, rfl, _, rfl, a, b, xs, ys, rfl, .inl ⟨ha, hb, fun D nD => ?_⟩⟩
        obtain ⟨W, w0, wk⟩ := body (walk_zip (K := K) (a := a) (b := b) (by omega)) (fun H3 e3 => ⟨e3.seqL (by simp) ha, e3.seqL (by simp) hb⟩) D nD
        exact ⟨W, w0, fun i m H3 h => (wk i m H3 h).imp_left fun ⟨g1, g2, g3⟩ => ⟨g1, small (by simp), fun z nz => fin H3 D g2 g3 z nz⟩⟩
      · refine ⟨_, rfl, _, rfl, a, b, xs, ys, rfl, .inr ⟨ha, hb, fun D nD => ?_⟩⟩
        obtain ⟨W, w0, wk⟩ := body (walk_zipT (K := K) (a := a) (b := b) (by omega)) (fun H3 e3 => ⟨e3.seqT0 ha, e3.seqT0 hb⟩) D nD
        exact ⟨W, w0, fun i m H3 h => (wk i m H3 h).imp_left fun ⟨g1, g2, g3⟩ => ⟨g1, small (by simp), fun z nz => fin H3 D g2 g3 z nz⟩⟩
    | false =>
      have nd : ∀ kvs, d ≠ .dict kvs := fun kvs z => by (subst z; exact ok)
      have fx := At.sc hx1 hs nd
      have fy := At.sc hy1 hs nd
      have yes : ∀ b : Bool, b = true → Q (.bl b) H1 := fun b e => by (rw [e]; exact q H1 e1)
      refine iteF ⟨_, rfl, rfl, _, rfl, ite2 (fun c => ?_) (fun c => ?_)⟩
      · have ey : y = .non := of_decide_eq_true c
        have ex : x = .non := by
          cases d with
          | none => exact hx1
          | bool b => rw [show y = V.bl b from hy1] at ey; cases ey
          | int b => rw [show y = V.int b from hy1] at ey; cases ey
          | str b => rw [show y = V.str b from hy1] at ey; cases ey
          | list ds => cases hs
          | tuple ds => cases hs
          | dict ds => exact absurd rfl (nd ds)
        exact ⟨_, rfl, rfl, yes _ (decide_eq_true ex)⟩
      refine ⟨_, rfl, true, fy, rfl, _, rfl, ite2 (fun c1 => ?_) (fun c1 => ?_)⟩
      · have ey : y = .bl true := of_decide_eq_true c1
        have ex : x = .bl true := by
          cases d with
          | none => rw [show y = V.non from hy1] at ey; cases ey
          | bool b => rw [show y = V.bl b from hy1] at ey; rw [show x = V.bl b from hx1]; exact ey
          | int b => rw [show y = V.int b from hy1] at ey; cases ey
          | str b => rw [show y = V.str b from hy1] at ey; cases ey
          | list ds => cases hs
          | tuple ds => cases hs
          | dict ds => exact absurd rfl (nd ds)
        exact ⟨_, rfl, true, fx, rfl, yes _ (decide_eq_true ex)⟩
      refine ⟨_, rfl, false, fy, rfl, _, rfl, ite2 (fun c2 => ?_) (fun c2 => ?_)⟩
      · have ey : y = .bl false := of_decide_eq_true c2
        have ex : x = .bl false := by
          cases d with
          | none => rw [show y = V.non from hy1] at ey; cases ey
          | bool b => rw [show y = V.bl b from hy1] at ey; rw [show x = V.bl b from hx1]; exact ey
          | int b => rw [show y = V.int b from hy1] at ey; cases ey
          | str b => rw [show y = V.str b from hy1] at ey; cases ey
          | list ds => cases hs
          | tuple ds => cases hs
          | dict ds => exact absurd rfl (nd ds)
        exact ⟨_, rfl, false, fx, rfl, yes _ (decide_eq_true ex)⟩
      cases d with
      | none => exact absurd (decide_eq_true (show y = V.non from hy1)) c
      | bool b =>
        cases b with
        | true => exact absurd (decide_eq_true (show y = V.bl true from hy1)) c1
        | false => exact absurd (decide_eq_true (show y = V.bl false from hy1)) c2
      | int i =>
        obtain rfl : x = V.int i := hx1
        obtain rfl : y = V.int i := hy1
        refine ⟨_, rfl, _, _, _, _, _, rfl, .ty _, .base (.int i), kit_ty (by decide +kernel : kitB "int" "int" = some true), _, rfl, iteT ?_⟩
        refine ⟨_, rfl, _, _, _, _, _, rfl, .ty _, .base (.int i), kit_ty (by decide +kernel : kitB "int" "int" = some true), _, rfl, iteT ?_⟩
        refine ⟨_, rfl, _, _, _, _, _, rfl, .ty _, .base (.int i), kit_ty (by decide +kernel : kitB "int" "bool" = some false), _, rfl, _, rfl, iteT ?_⟩
        exact ⟨_, rfl, _, rfl, rfl, yes _ (decide_eq_true rfl)⟩
      | str z =>
        obtain rfl : x = V.str z := hx1
        obtain rfl : y = V.str z := hy1
        refine ⟨_, rfl, _, _, _, _, _, rfl, .ty _, .base (.str z), kit_ty (by decide +kernel : kitB "str" "int" = some false), _, rfl, iteF ?_⟩
        refine ⟨_, rfl, _, _, _, _, _, rfl, .ty _, .base (.str z), kit_ty (by decide +kernel : kitB "str" "str" = some true), _, rfl, iteT ?_⟩
        exact ⟨_, rfl, _, rfl, rfl, yes _ (decide_eq_true rfl)⟩
      | list ds => cases hs
      | tuple ds => cases hs
      | dict ds => exact absurd rfl (nd ds)
end
end HK
set_option Elab.async false
set_option linter.all false
set_option maxRecDepth 100000
set_option maxHeartbeats 400000
namespace HK
open PySem PySem.Spec PyProof.Rows L2
/-- what _law_heard_time makes of a lambda that tells a question wrong, and gives nothing back -/
def TTq (C : Addr) : (XK → Hp → VK → Prop) → Hp → VK → Prop := fun tl H Q => ∀ R : VK,
  tl (fun cls d H' => cls = .ref C ∧ ∃ (dd : Addr) (v : V), d = some dd ∧ H' dd = some (.xd [(("at" : Str), v)]) ∧ ∀ t, H' t = none → Q (.ref t) (upd H' t (.tup [.str "question", v]))) H R
/-- what flies out of a state is asked of states with all their slots alone -/
theorem takes_len {X : Cx} {W : WX} (t : Takes X W) : Takes X (fun c d σ H => σ.length = X.N.length → W c d σ H) := fun u s' ⟨a, B, sI, pins, σ, H, cls, d, e, I, r1, r2, r3, r4, r5, r6, k⟩ => t u s' ⟨a, B, sI, pins, σ, H, cls, d, e, I, r1, r2, r3, r4, r5, r6, k I.len⟩
section
variable {X : Cx} {g f1 f2 f3 f4 f5 : Addr} {cdg : Value} {q : Str} {C1 C2 C3 C4 C5 : Addr}
theorem heard_gives (a1 : PySem.HX.AtTxt X.prog X.K X.mg C1 f1) (a2 : PySem.HX.AtTxt X.prog X.K X.mg C2 f2) (a3 : PySem.HX.AtTxt X.prog X.K X.mg C3 f3) (a4 : PySem.HX.AtTxt X.prog X.K X.mg C4 f4) (a5 : PySem.HX.AtTxt X.prog X.K X.mg C5 f5)
    (m1 : X.mg "InvalidModule" = some (.ref C1)) (m2 : X.mg "InvalidState" = some (.ref C2)) (m3 : X.mg "InvalidValue" = some (.ref C3)) (m4 : X.mg "InvalidQuestion" = some (.ref C4)) (m5 : X.mg "Refused" = some (.ref C5))
    (x1 : PySem.W.exmOne X.K (.ref C4) (.ref C1) = some false) (x2 : PySem.W.exmOne X.K (.ref C4) (.ref C2) = some false) (x3 : PySem.W.exmOne X.K (.ref C4) (.ref C3) = some false) (x4 : PySem.W.exmOne X.K (.ref C4) (.ref C4) = some true) :
    LamX.GivesTo X nm_law_heard_time "_law_heard_time" sp_law_heard_time g cdg (defBody s_law_heard_time) "deed" q (TTq C4) := by
  intro f c' s H Q tl act hc h
  have su : ∀ {C fI : Addr} {x : Str} {p1 p2 p3 p4 p5 : Pos} {j : Nat} {k : Nat} (T : PySem.HX.AtTxt X.prog X.K X.mg C fI) (a : Addr) (oe : Obj) (cls : Value) (d : Option Addr) (pn : List (Addr × Obj)), Zc cls d oe → (∃ vs, oe.data = .fields vs) →
      PSs ((cxOf C8.CX0 X.prog X.w X.K X.mg X.base nm_law_heard_time "_law_heard_time" sp_law_heard_time g cdg X.A X.stack s H C8.E0).nox.suite a ((a, oe) :: pn)) [.Return (some (.Tuple [.Constant (.str x) j p1, .Attribute (.Name "wrong" p2) "at" p3] k p4)) p5]
        (tRet (tTup (tCons (tC (.str x)) (tCons (tByAt C a cls d (tVar 2)) tNil)))) := fun T a oe cls d pn hz hf =>
    pss_one (ps_ret (pe_tup (pa_cons pe_str (pa_cons (pe_byAt T hz hf (pv 2)) pa_nil))))
  refine ⟨_, pss_cons (ps_try_manyA (X := (cxOf C8.CX0 X.prog X.w X.K X.mg X.base nm_law_heard_time "_law_heard_time" sp_law_heard_time g cdg X.A X.stack s H C8.E0).nox)
      (tb := fun W D σ H => ∃ Ech : XK, (∀ cls d σ' H', Ech cls d H' → σ'.length = nm_law_heard_time.length → W cls d σ' H') ∧ σ[0]? = some (some (.ref f)) ∧ H c' = some (LamX.CodeO c' q) ∧ tl Ech H fun v H' => D.nx (σ.set 1 (some v)) H')
      rfl rfl LamX.takes0 (fun W pn xe tk _ => ?_)
      (HdsA.cons (i := 2) sc_law_heard_time.nd rfl rfl ⟨rfl, by decide, .inl m1⟩ (fun a oe cls d pn hz hf => su a1 a oe cls d pn hz hf)
      (HdsA.cons (i := 2) sc_law_heard_time.nd rfl rfl ⟨rfl, by decide, .inl m2⟩ (fun a oe cls d pn hz hf => su a2 a oe cls d pn hz hf)
      (HdsA.cons (i := 2) sc_law_heard_time.nd rfl rfl ⟨rfl, by decide, .inl m3⟩ (fun a oe cls d pn hz hf => su a3 a oe cls d pn hz hf)
      (HdsA.cons (i := 2) sc_law_heard_time.nd rfl rfl ⟨rfl, by decide, .inl m4⟩ (fun a oe cls d pn hz hf => su a4 a oe cls d pn hz hf)
      (HdsA.cons (i := 2) sc_law_heard_time.nd rfl rfl ⟨rfl, by decide, .inl m5⟩ (fun a oe cls d pn hz hf => su a5 a oe cls d pn hz hf) HdsA.nil))))))
    (pss_one (ps_ret (pe_tup (pa_cons pe_str (pa_cons (pv 1) pa_nil))))), ?_⟩
  · refine ⟨fun pins s' σ H' D I h' => ?_⟩
    obtain ⟨Ech, hW, h1, h2, h3⟩ := h'
    exact (pss_one (ps_set (i := 1) sc_law_heard_time.nd rfl (.inl rfl) (act _ pn xe Ech _ _ (takes_len tk) hW))).run pins s' σ H' D I ⟨h1, h2, h3⟩
  · refine ⟨fun cls d H' => cls = .ref C4 ∧ ∃ (dd : Addr) (v : V), d = some dd ∧ H' dd = some (.xd [(("at" : Str), v)]) ∧ ∀ t, H' t = none → Q (.ref t) (upd H' t (.tup [.str "question", v])), fun cls d σ' H' hE hl => ?_, rfl, hc, ?_⟩
    · obtain ⟨rfl, dd, v, rfl, hd, hq⟩ := hE
      refine ⟨false, x1, fun z => (by cases z), fun _ => ⟨false, x2, fun z => (by cases z), fun _ => ⟨false, x3, fun z => (by cases z), fun _ => ⟨true, x4, fun _ a ha => ?_, fun z => (by cases z)⟩⟩⟩⟩
      have hl : σ'.length = 3 := hl
      refine ⟨_, List.getElem?_set_self (by omega), rfl, rfl, dd, v, rfl, hd, small (by simp), fun t nt => hq t nt⟩
    · exact h _
end
end HK
set_option Elab.async false
set_option linter.all false
set_option maxRecDepth 100000
set_option maxHeartbeats 400000
namespace HK
open PySem PySem.Spec PyProof.Rows L2
theorem with_tup {H : Hp} {t : Addr} {xs : List V} {P : Hp → Prop} (nt : H t = none) (k : ∀ H', Eff [] H H' → H' t = some (.tup xs) → P H') : P (upd H t (.tup xs)) := k _ (Eff.refl.put nt) upd_same
theorem with_lst {H : Hp} {t : Addr} {xs : List V} {P : Hp → Prop} (nt : H t = none) (k : ∀ H', Eff [] H H' → H' t = some (.lst xs) → P H') : P (upd H t (.lst xs)) := k _ (Eff.refl.put nt) upd_same
theorem nodesL_rep (m : Nat) (x : Lot) : Lot.nodesL (List.replicate m x) = m * x.nodes := by
  induction m with
  | zero => simp [Lot.nodesL]
  | succ m ih => rw [List.replicate_succ, Lot.nodesL, ih, Nat.succ_mul]; omega
theorem stepsL_rep (m : Nat) (x : Lot) : Lot.stepsL (List.replicate m x) = m * x.steps := by
  induction m with
  | zero => simp [Lot.stepsL]
  | succ m ih => rw [List.replicate_succ, Lot.stepsL, ih, Nat.succ_mul]; omega
theorem depthL_rep (m : Nat) (x : Lot) : Lot.depthL (List.replicate m x) ≤ x.depth := depthL_le fun y hy => by rw [List.eq_of_mem_replicate hy]; exact Nat.le_refl _
section
variable {K : PySem.W.Frag} {H : Hp}
theorem lots_rep {x : Lot} {v : V} (h : LotAt K H x v) : ∀ m : Nat, LotsAt K H (List.replicate m x) (List.replicate m v)
  | 0 => rfl
  | m + 1 => ⟨v, _, rfl, h, lots_rep h m⟩
theorem lots_nil : LotsAt K H [] [] := rfl
theorem lots_cons {x : Lot} {v : V} {l : List Lot} {vs : List V} (h : LotAt K H x v) (hl : LotsAt K H l vs) : LotsAt K H (x :: l) (v :: vs) := ⟨v, vs, rfl, h, hl⟩
end
theorem isLot_row {m : Nat} {x : Lot} : isLotD (Lot.row (List.replicate m x)).data = decide (1 + m * x.nodes ≤ 4000 ∧ 1 + Lot.depthL (List.replicate m x) ≤ 60 ∧ m * x.steps ≤ 600) := by
  rw [Bool.eq_iff_iff, isLot_iff, decide_eq_true_eq, Lot.nodes, Lot.depth, Lot.steps, nodesL_rep, stepsL_rep]
section
variable {w : World} {K : PySem.W.Frag} {mg : Str → Option Value} {base : Heap}
def spMany (K : PySem.W.Frag) : Sp := fun vs H Q _ => ∃ (d l : Addr), vs = [.ref d] ∧ DealAt H d l ∧ ∀ H' t v lot, Eff [d, l] H H' → DealAt H' d l → SqT K H' t [v, .bl (isLotD lot.data)] → LotAt K H' lot v → lot.nodes ≤ 5000 → lot.depth ≤ 61 → Q (.ref t) H'
theorem ok_many (T : Tx K mg) : Cal PP w K mg base CX0 "_law_many_lot" 3 ["deal"] (spMany K) := by
  have c_law_any := ok_any (w := w) (base := base) T
  have c_law_of := ok_of (w := w) (base := base) T
  refine T.ok_law_many_lot (fun vs H Q E h => ?_) (fun cdv A outer s H vs Q E hr h => ?_)
  · obtain ⟨d, l, rfl, _⟩ := h
    rfl
  obtain ⟨d, l, rfl, hD, q⟩ := h
  refine ⟨_, (pss_cons (ps_set (i := 1) (sc_law_many_lot).nd rfl (by first | exact Or.inl rfl | exact Or.inr rfl) (pe_c c_law_any (hr.mono (by first | decide | omega)) pass0 (pa_cons (pv 0) (pa_cons pe_int pa_nil))))
      (pss_cons (ps_if (pt_cmpR op_eq (pv 1) pe_int (nomark _)) (pss_cons (ps_set (i := 2) (sc_law_many_lot).nd rfl (by first | exact Or.inl rfl | exact Or.inr rfl) (pe_op op_add pe_int (pe_c c_law_any (hr.mono (by first | decide | omega)) pass0 (pa_cons (pv 0) (pa_cons pe_int pa_nil)))))
      (pss_one (ps_ret (pe_tup (pa_cons (pe_tup (pa_cons pe_str (pa_cons (pe_op op_repOne (pe_tup (pa_cons (pe_tup (pa_cons pe_str pa_nil)) pa_nil)) (pv 2)) pa_nil))) (pa_cons (pe_cmpR op_le (pv 2) pe_int (nomark _)) pa_nil)))))) pss_nil)
      (pss_cons (ps_if (pt_cmpR op_eq (pv 1) pe_int (nomark _)) (pss_cons (ps_par (i := 3) (j := 4) (by rfl) (sc_law_many_lot).nd rfl rfl (by decide) rfl rfl (pa_cons (pe_tup (pa_cons pe_str pa_nil)) (pa_cons (pe_op op_add pe_int (pe_c c_law_any (hr.mono (by first | decide | omega)) pass0 (pa_cons (pv 0) (pa_cons pe_int pa_nil)))) pa_nil)) (by rfl))
      (pss_cons (ps_for PassesOwn.never rfl (pi_range1 (by rfl) T.z_range (pa_cons (pe_op op_sub (pv 4) pe_int) pa_nil)) (pg_name (i := 5) (sc_law_many_lot).nd rfl (by first | exact Or.inl rfl | exact Or.inr rfl)) (pss_one (ps_set (i := 3) (sc_law_many_lot).nd rfl (by first | exact Or.inl rfl | exact Or.inr rfl) (pe_c c_law_of (hr.mono (by first | decide | omega)) pass0 (pa_cons (pv 0) (pa_cons (pe_lst (pa_cons (pe_tup (pa_cons pe_str (pa_cons (pe_tup (pa_cons (pv 3) pa_nil)) pa_nil))) (pa_cons (pe_tup (pa_cons pe_str (pa_cons (pv 3) (pa_cons (pe_tup (pa_cons pe_str (pa_cons (pe_tup pa_nil) pa_nil))) pa_nil)))) (pa_cons (pe_tup (pa_cons pe_str (pa_cons (pe_tup (pa_cons pe_str (pa_cons (pe_tup pa_nil) pa_nil))) (pa_cons (pv 3) pa_nil)))) (pa_cons (pe_tup (pa_cons pe_str (pa_cons (pe_tup (pa_cons (pe_tup (pa_cons pe_str (pa_cons (pe_tup pa_nil) pa_nil))) (pa_cons (pv 3) pa_nil))) pa_nil))) pa_nil))))) pa_nil))))))
      (pss_one (ps_ret (pe_tup (pa_cons (pv 3) (pa_cons (pe_cmpR op_le (pv 4) pe_int (nomark _)) pa_nil))))))) pss_nil)
      (pss_cons (ps_if (pt_cmpR op_eq (pv 1) pe_int (nomark _)) (pss_cons (ps_set (i := 2) (sc_law_many_lot).nd rfl (by first | exact Or.inl rfl | exact Or.inr rfl) (pe_op op_add pe_int (pe_c c_law_any (hr.mono (by first | decide | omega)) pass0 (pa_cons (pv 0) (pa_cons pe_int pa_nil)))))
      (pss_one (ps_ret (pe_tup (pa_cons (pe_tup (pa_cons pe_str (pa_cons (pe_op op_repOne (pe_tup (pa_cons (pe_tup (pa_cons pe_str (pa_cons (pe_tup pa_nil) pa_nil))) pa_nil)) (pv 2)) pa_nil))) (pa_cons (pe_cmpR op_le (pe_op op_add (pv 2) pe_int) pe_int (nomark _)) pa_nil)))))) pss_nil)
      (pss_cons (ps_set (i := 6) (sc_law_many_lot).nd rfl (by first | exact Or.inl rfl | exact Or.inr rfl) (pe_tup (pa_cons pe_str pa_nil)))
      (pss_cons (ps_for PassesOwn.never rfl (pi_range1 (by rfl) T.z_range (pa_cons pe_int pa_nil)) (pg_name (i := 5) (sc_law_many_lot).nd rfl (by first | exact Or.inl rfl | exact Or.inr rfl)) (pss_one (ps_set (i := 6) (sc_law_many_lot).nd rfl (by first | exact Or.inl rfl | exact Or.inr rfl) (pe_tup (pa_cons pe_str (pa_cons (pv 6) (pa_cons (pv 6) pa_nil)))))))
      (pss_one (ps_ret (pe_tup (pa_cons (pe_tup (pa_cons pe_str (pa_cons (pe_tup (pa_cons (pv 6) (pa_cons (pe_tup (pa_cons pe_str (pa_cons (pe_tup (pa_cons pe_str pa_nil)) (pa_cons (pe_tup (pa_cons pe_str (pa_cons (pe_tup pa_nil) pa_nil))) pa_nil)))) (pa_cons (pv 6) pa_nil)))) pa_nil))) (pa_cons pe_bl pa_nil))))))))))), ?_⟩
  refine ⟨_, rfl, d, l, 4, rfl, hD, by decide, by decide, fun H0 k e0 hD0 k0 k1 => ?_⟩
  refine ⟨_, rfl, rfl, _, rfl, ite2 (fun c => ?_) (fun c => ⟨_, rfl, rfl, _, rfl, ite2 (fun c2 => ?_) (fun c2 => ⟨_, rfl, rfl, _, rfl, ite2 (fun c3 => ?_) (fun c3 => ?_)⟩)⟩)⟩
  · -- many steps in a row
    refine ⟨_, rfl, d, l, 3, rfl, hD0, by decide, by decide, fun Ha j ea hDa j0 j1 => ⟨_, _, rfl, rfl, ?_⟩⟩
    obtain ⟨j, rfl⟩ : ∃ j' : Nat, j = j' := ⟨j.toNat, by omega⟩
    refine ⟨small (by simp), fun t1 n1 => ?_⟩
    have e1 : Eff [] Ha (upd Ha t1 (.tup [.str "step"])) := Eff.refl.put n1
    have h1 : (upd Ha t1 (.tup [.str "step"])) t1 = some (.tup [.str "step"]) := upd_same
    generalize (upd Ha t1 (.tup [.str "step"])) = H1 at *
    refine ⟨small (by simp), fun t2 n2 => ?_⟩
    have e2 : Eff [] H1 (upd H1 t2 (.tup [.ref t1])) := Eff.refl.put n2
    have h2 : (upd H1 t2 (.tup [.ref t1])) t2 = some (.tup [.ref t1]) := upd_same
    generalize (upd H1 t2 (.tup [.ref t1])) = H2 at *
    refine ⟨_, rfl, t2, 599 + (j : Int), .ref t1, rfl, rfl, SqT.of h2, by omega, by omega, ?_⟩
    have em : (599 + (j : Int)).toNat = 599 + j := by omega
    rw [em]
    refine fun t3 n3 => ?_
    have e3 : Eff [] H2 (upd H2 t3 (.tup (List.replicate (599 + j) (.ref t1)))) := Eff.refl.put n3
    have h3 : (upd H2 t3 (.tup (List.replicate (599 + j) (.ref t1)))) t3 = some (.tup (List.replicate (599 + j) (.ref t1))) := upd_same
    generalize (upd H2 t3 (.tup (List.replicate (599 + j) (.ref t1)))) = H3 at *
    refine ⟨small (by simp), fun t4 n4 => ?_⟩
    have e4 : Eff [] H3 (upd H3 t4 (.tup [.str "row", .ref t3])) := Eff.refl.put n4
    have h4 : (upd H3 t4 (.tup [.str "row", .ref t3])) t4 = some (.tup [.str "row", .ref t3]) := upd_same
    generalize (upd H3 t4 (.tup [.str "row", .ref t3])) = H4 at *
    refine ⟨_, rfl, _, _, rfl, rfl, ?_⟩
    refine ⟨small (by simp), fun t5 n5 => ?_⟩
    have e5 : Eff [] H4 (upd H4 t5 (.tup [.ref t4, .bl (decide (599 + (j : Int) ≤ 600))])) := Eff.refl.put n5
    have h5 : (upd H4 t5 (.tup [.ref t4, .bl (decide (599 + (j : Int) ≤ 600))])) t5 = some (.tup [.ref t4, .bl (decide (599 + (j : Int) ≤ 600))]) := upd_same
    generalize (upd H4 t5 (.tup [.ref t4, .bl (decide (599 + (j : Int) ≤ 600))])) = H5 at *
    have F5 := e5
    have F4 := e4.trans F5
    have F3 := e3.trans F4
    have F2 := e2.trans F3
    have F1 := e1.trans F2
    have l1 : LotAt K H5 .step (.ref t1) := lot_step (F2.seqT0 (SqT.of h1))
    have lr : LotAt K H5 (.row (List.replicate (599 + j) .step)) (.ref t4) := lot_row (F5.seqT0 (SqT.of h4)) (F4.seqT0 (SqT.of h3)) (lots_rep l1 _)
    have eb : decide (599 + (j : Int) ≤ 600) = isLotD (Lot.row (List.replicate (599 + j) .step)).data := by
      have hd := depthL_rep (599 + j) .step
      rw [isLot_row, Bool.eq_iff_iff, decide_eq_true_eq, decide_eq_true_eq]
      simp only [Lot.nodes, Lot.steps, Lot.depth] at *
      omega
    refine q H5 t5 _ _ ((e0.trans ea).trans F1.nil) (hDa.eff F1) (SqT.of (by rw [h5, ← eb])) lr ?_ ?_
    · rw [Lot.nodes, nodesL_rep]; simp only [Lot.nodes]; omega
    · have hd := depthL_rep (599 + j) .step
      rw [Lot.depth]; simp only [Lot.depth] at *; omega
  · -- deep
    refine ⟨small (by simp), fun t0 n0 => ?_⟩
    have eb : Eff [] H0 (upd H0 t0 (.tup [.str "step"])) := Eff.refl.put n0
    have hb : (upd H0 t0 (.tup [.str "step"])) t0 = some (.tup [.str "step"]) := upd_same
    generalize (upd H0 t0 (.tup [.str "step"])) = Hb at *
    refine ⟨_, rfl, d, l, 3, rfl, hD0.eff eb, by decide, by decide, fun Ha j ea hDa j0 j1 => ⟨_, _, rfl, rfl, _, _, rfl, ?_⟩⟩
    obtain ⟨j, rfl⟩ : ∃ j' : Nat, j = j' := ⟨j.toNat, by omega⟩
    have e0a : Eff [d, l] H Ha := (e0.trans eb.nil).trans ea
    have l0 : LotAt K Ha .step (.ref t0) := (lot_step (SqT.of hb)).keep ea (hD0.eff eb).lists
    refine ⟨_, rfl, _, _, rfl, rfl, _, rfl, ?_, ?_, ?_⟩
    · exact Int.le_trans (show (-(2 ^ 62) : Int) ≤ 0 by decide) (by omega)
    · exact Int.lt_of_le_of_lt (show 59 + (j : Int) - 1 ≤ 100 by omega) (by decide)
    refine for_it walk_range (fun i σ H1 => (∃ v x5 lot, σ = [some (.ref d), some (.int k), none, some v, some (.int (59 + (j : Int))), x5, none] ∧ LotAt K H1 lot v ∧ lot.depth = i + 1 ∧ lot.nodes ≤ 1 + 2 * i ∧ lot.steps = 1) ∧ DealAt H1 d l ∧ Eff [d, l] H H1) ⟨⟨_, _, .step, rfl, l0, rfl, Nat.le_refl _, rfl⟩, hDa, e0a⟩ (fun _ _ _ _ _ => trivial) ?_ ?_
    · rintro i x σ H0' H0'' hi ⟨⟨v, x5, lot, rfl, hl, dl, nl, sl⟩, hD1, eH⟩ ⟨rfl, rfl⟩
      refine ⟨_, rfl, _, rfl, ?_⟩
      refine ⟨small (by simp), fun t1 n1 => ?_⟩
      have e1 : Eff [] H0'' (upd H0'' t1 (.tup [v])) := Eff.refl.put n1
      have h1 : (upd H0'' t1 (.tup [v])) t1 = some (.tup [v]) := upd_same
      generalize (upd H0'' t1 (.tup [v])) = H1 at *
      refine ⟨small (by simp), fun t2 n2 => ?_⟩
      have e2 : Eff [] H1 (upd H1 t2 (.tup [.str "row", .ref t1])) := Eff.refl.put n2
      have h2 : (upd H1 t2 (.tup [.str "row", .ref t1])) t2 = some (.tup [.str "row", .ref t1]) := upd_same
      generalize (upd H1 t2 (.tup [.str "row", .ref t1])) = H2 at *
      refine ⟨_, rfl, ?_⟩
      refine ⟨small (by simp), fun t3 n3 => ?_⟩
      have e3 : Eff [] H2 (upd H2 t3 (.tup [])) := Eff.refl.put n3
      have h3 : (upd H2 t3 (.tup [])) t3 = some (.tup []) := upd_same
      generalize (upd H2 t3 (.tup [])) = H3 at *
      refine ⟨small (by simp), fun t4 n4 => ?_⟩
      have e4 : Eff [] H3 (upd H3 t4 (.tup [.str "row", .ref t3])) := Eff.refl.put n4
      have h4 : (upd H3 t4 (.tup [.str "row", .ref t3])) t4 = some (.tup [.str "row", .ref t3]) := upd_same
      generalize (upd H3 t4 (.tup [.str "row", .ref t3])) = H4 at *
      refine ⟨small (by simp), fun t5 n5 => ?_⟩
      have e5 : Eff [] H4 (upd H4 t5 (.tup [.str "both", v, .ref t4])) := Eff.refl.put n5
      have h5 : (upd H4 t5 (.tup [.str "both", v, .ref t4])) t5 = some (.tup [.str "both", v, .ref t4]) := upd_same
      generalize (upd H4 t5 (.tup [.str "both", v, .ref t4])) = H5 at *
      refine ⟨small (by simp), fun t6 n6 => ?_⟩
      have e6 : Eff [] H5 (upd H5 t6 (.tup [])) := Eff.refl.put n6
      have h6 : (upd H5 t6 (.tup [])) t6 = some (.tup []) := upd_same
      generalize (upd H5 t6 (.tup [])) = H6 at *
      refine ⟨small (by simp), fun t7 n7 => ?_⟩
      have e7 : Eff [] H6 (upd H6 t7 (.tup [.str "row", .ref t6])) := Eff.refl.put n7
      have h7 : (upd H6 t7 (.tup [.str "row", .ref t6])) t7 = some (.tup [.str "row", .ref t6]) := upd_same
      generalize (upd H6 t7 (.tup [.str "row", .ref t6])) = H7 at *
      refine ⟨_, rfl, ?_⟩
      refine ⟨small (by simp), fun t8 n8 => ?_⟩
      have e8 : Eff [] H7 (upd H7 t8 (.tup [.str "both", .ref t7, v])) := Eff.refl.put n8
      have h8 : (upd H7 t8 (.tup [.str "both", .ref t7, v])) t8 = some (.tup [.str "both", .ref t7, v]) := upd_same
      generalize (upd H7 t8 (.tup [.str "both", .ref t7, v])) = H8 at *
      refine ⟨small (by simp), fun t9 n9 => ?_⟩
      have e9 : Eff [] H8 (upd H8 t9 (.tup [])) := Eff.refl.put n9
      have h9 : (upd H8 t9 (.tup [])) t9 = some (.tup []) := upd_same
      generalize (upd H8 t9 (.tup [])) = H9 at *
      refine ⟨small (by simp), fun t10 n10 => ?_⟩
      have e10 : Eff [] H9 (upd H9 t10 (.tup [.str "row", .ref t9])) := Eff.refl.put n10
      have h10 : (upd H9 t10 (.tup [.str "row", .ref t9])) t10 = some (.tup [.str "row", .ref t9]) := upd_same
      generalize (upd H9 t10 (.tup [.str "row", .ref t9])) = H10 at *
      refine ⟨_, rfl, ?_⟩
      refine ⟨small (by simp), fun t11 n11 => ?_⟩
      have e11 : Eff [] H10 (upd H10 t11 (.tup [.ref t10, v])) := Eff.refl.put n11
      have h11 : (upd H10 t11 (.tup [.ref t10, v])) t11 = some (.tup [.ref t10, v]) := upd_same
      generalize (upd H10 t11 (.tup [.ref t10, v])) = H11 at *
      refine ⟨small (by simp), fun t12 n12 => ?_⟩
      have e12 : Eff [] H11 (upd H11 t12 (.tup [.str "row", .ref t11])) := Eff.refl.put n12
      have h12 : (upd H11 t12 (.tup [.str "row", .ref t11])) t12 = some (.tup [.str "row", .ref t11]) := upd_same
      generalize (upd H11 t12 (.tup [.str "row", .ref t11])) = H12 at *
      refine ⟨small (by simp), fun a n13 => ?_⟩
      have e13 : Eff [] H12 (upd H12 a (.lst [.ref t2, .ref t5, .ref t8, .ref t12])) := Eff.refl.put n13
      have h13 : (upd H12 a (.lst [.ref t2, .ref t5, .ref t8, .ref t12])) a = some (.lst [.ref t2, .ref t5, .ref t8, .ref t12]) := upd_same
      generalize (upd H12 a (.lst [.ref t2, .ref t5, .ref t8, .ref t12])) = H13 at *
      have F13 := e13
      have F12 := e12.trans F13
      have F11 := e11.trans F12
      have F10 := e10.trans F11
      have F9 := e9.trans F10
      have F8 := e8.trans F9
      have F7 := e7.trans F8
      have F6 := e6.trans F7
      have F5 := e5.trans F6
      have F4 := e4.trans F5
      have F3 := e3.trans F4
      have F2 := e2.trans F3
      have F1 := e1.trans F2
      have hD2 := hD1.eff F1
      have hv := hl.same F1
      have m1 : LotAt K H13 (.row [lot]) (.ref t2) := lot_row (F3.seqT0 (SqT.of h2)) (F2.seqT0 (SqT.of h1)) (lots_cons hv lots_nil)
      have r4 : LotAt K H13 (.row []) (.ref t4) := lot_row (F5.seqT0 (SqT.of h4)) (F4.seqT0 (SqT.of h3)) lots_nil
      have r7 : LotAt K H13 (.row []) (.ref t7) := lot_row (F8.seqT0 (SqT.of h7)) (F7.seqT0 (SqT.of h6)) lots_nil
      have r10 : LotAt K H13 (.row []) (.ref t10) := lot_row (F11.seqT0 (SqT.of h10)) (F10.seqT0 (SqT.of h9)) lots_nil
      have m2 : LotAt K H13 (.both lot (.row [])) (.ref t5) := lot_both (F6.seqT0 (SqT.of h5)) hv r4
      have m3 : LotAt K H13 (.both (.row []) lot) (.ref t8) := lot_both (F9.seqT0 (SqT.of h8)) r7 hv
      have m4 : LotAt K H13 (.row [.row [], lot]) (.ref t12) := lot_row (F13.seqT0 (SqT.of h12)) (F12.seqT0 (SqT.of h11)) (lots_cons r10 (lots_cons hv lots_nil))
      have nad : a ≠ d ∧ a ≠ l := by
        obtain ⟨cs, b, k1, k2, _⟩ := hD2
        refine ⟨ne_of h13 k1 fun z => ?_, ne_of h13 k2 fun z => ?_⟩
        · cases z
        · have z := HO.lst.inj z
          cases cs <;> cases z
      refine ⟨d, l, a, _, rfl, hD2, .inl (.inl h13), nad.1, nad.2, by simp, by simp, fun H14 v2 e14 hD14 hv2 => ?_⟩
      obtain ⟨lot2, hl2, d2, z2, s2⟩ : ∃ lot2, LotAt K H13 lot2 v2 ∧ lot2.depth = i + 2 ∧ lot2.nodes ≤ 1 + 2 * (i + 1) ∧ lot2.steps = 1 := by
        simp at hv2
        rcases hv2 with rfl | rfl | rfl | rfl
        · exact ⟨_, m1, by simp only [Lot.depth, Lot.depthL]; omega, by simp only [Lot.nodes, Lot.nodesL]; omega, by simp only [Lot.steps, Lot.stepsL]; omega⟩
        · exact ⟨_, m2, by simp only [Lot.depth, Lot.depthL]; omega, by simp only [Lot.nodes, Lot.nodesL]; omega, by simp only [Lot.steps, Lot.stepsL]; omega⟩
        · exact ⟨_, m3, by simp only [Lot.depth, Lot.depthL]; omega, by simp only [Lot.nodes, Lot.nodesL]; omega, by simp only [Lot.steps, Lot.stepsL]; omega⟩
        · exact ⟨_, m4, by simp only [Lot.depth, Lot.depthL]; omega, by simp only [Lot.nodes, Lot.nodesL]; omega, by simp only [Lot.steps, Lot.stepsL]; omega⟩
      exact ⟨⟨v2, _, lot2, rfl, hl2.keep e14 hD2.lists, d2, z2, s2⟩, hD14, (eH.trans F1.nil).trans e14⟩
    · rintro σ H1 ⟨⟨v, x5, lot, rfl, hl, dl, nl, sl⟩, hD1, eH⟩
      refine ⟨_, rfl, _, rfl, _, _, rfl, rfl, small (by simp), fun t nt => ?_⟩
      have e2 : Eff [] H1 (upd H1 t (.tup [v, .bl (decide (59 + (j : Int) ≤ 60))])) := Eff.refl.put nt
      have ed : lot.depth = 59 + j := by omega
      have eb2 : decide (59 + (j : Int) ≤ 60) = isLotD lot.data := by
        rw [Bool.eq_iff_iff, isLot_iff, decide_eq_true_eq]
        omega
      exact q _ t _ _ (eH.trans e2.nil) (hD1.eff e2) (SqT.of (by rw [upd_same, ← eb2])) (hl.same e2) (by omega) (by omega)
  · -- many rows in a row
    refine ⟨_, rfl, d, l, 3, rfl, hD0, by decide, by decide, fun Ha j ea hDa j0 j1 => ⟨_, _, rfl, rfl, ?_⟩⟩
    obtain ⟨j, rfl⟩ : ∃ j' : Nat, j = j' := ⟨j.toNat, by omega⟩
    refine ⟨small (by simp), fun t1 n1 => ?_⟩
    have e1 : Eff [] Ha (upd Ha t1 (.tup [])) := Eff.refl.put n1
    have h1 : (upd Ha t1 (.tup [])) t1 = some (.tup []) := upd_same
    generalize (upd Ha t1 (.tup [])) = H1 at *
    refine ⟨small (by simp), fun t2 n2 => ?_⟩
    have e2 : Eff [] H1 (upd H1 t2 (.tup [.str "row", .ref t1])) := Eff.refl.put n2
    have h2 : (upd H1 t2 (.tup [.str "row", .ref t1])) t2 = some (.tup [.str "row", .ref t1]) := upd_same
    generalize (upd H1 t2 (.tup [.str "row", .ref t1])) = H2 at *
    refine ⟨small (by simp), fun t3 n3 => ?_⟩
    have e3 : Eff [] H2 (upd H2 t3 (.tup [.ref t2])) := Eff.refl.put n3
    have h3 : (upd H2 t3 (.tup [.ref t2])) t3 = some (.tup [.ref t2]) := upd_same
    generalize (upd H2 t3 (.tup [.ref t2])) = H3 at *
    refine ⟨_, rfl, t3, 3998 + (j : Int), .ref t2, rfl, rfl, SqT.of h3, by omega, by omega, ?_⟩
    have em : (3998 + (j : Int)).toNat = 3998 + j := by omega
    rw [em]
    refine fun t4 n4 => ?_
    have e4 : Eff [] H3 (upd H3 t4 (.tup (List.replicate (3998 + j) (.ref t2)))) := Eff.refl.put n4
    have h4 : (upd H3 t4 (.tup (List.replicate (3998 + j) (.ref t2)))) t4 = some (.tup (List.replicate (3998 + j) (.ref t2))) := upd_same
    generalize (upd H3 t4 (.tup (List.replicate (3998 + j) (.ref t2)))) = H4 at *
    refine ⟨small (by simp), fun t5 n5 => ?_⟩
    have e5 : Eff [] H4 (upd H4 t5 (.tup [.str "row", .ref t4])) := Eff.refl.put n5
    have h5 : (upd H4 t5 (.tup [.str "row", .ref t4])) t5 = some (.tup [.str "row", .ref t4]) := upd_same
    generalize (upd H4 t5 (.tup [.str "row", .ref t4])) = H5 at *
    refine ⟨_, rfl, _, _, rfl, rfl, _, _, rfl, rfl, ?_⟩
    refine ⟨small (by simp), fun t6 n6 => ?_⟩
    have e6 : Eff [] H5 (upd H5 t6 (.tup [.ref t5, .bl (decide (3998 + (j : Int) + 1 ≤ 4000))])) := Eff.refl.put n6
    have h6 : (upd H5 t6 (.tup [.ref t5, .bl (decide (3998 + (j : Int) + 1 ≤ 4000))])) t6 = some (.tup [.ref t5, .bl (decide (3998 + (j : Int) + 1 ≤ 4000))]) := upd_same
    generalize (upd H5 t6 (.tup [.ref t5, .bl (decide (3998 + (j : Int) + 1 ≤ 4000))])) = H6 at *
    have F6 := e6
    have F5 := e5.trans F6
    have F4 := e4.trans F5
    have F3 := e3.trans F4
    have F2 := e2.trans F3
    have F1 := e1.trans F2
    have l1 : LotAt K H6 (.row []) (.ref t2) := lot_row (F3.seqT0 (SqT.of h2)) (F2.seqT0 (SqT.of h1)) lots_nil
    have lr : LotAt K H6 (.row (List.replicate (3998 + j) (.row []))) (.ref t5) := lot_row (F6.seqT0 (SqT.of h5)) (F5.seqT0 (SqT.of h4)) (lots_rep l1 _)
    have eb : decide (3998 + (j : Int) + 1 ≤ 4000) = isLotD (Lot.row (List.replicate (3998 + j) (.row []))).data := by
      have hd := depthL_rep (3998 + j) (.row [])
      rw [isLot_row, Bool.eq_iff_iff, decide_eq_true_eq, decide_eq_true_eq]
      simp only [Lot.nodes, Lot.steps, Lot.depth, Lot.nodesL, Lot.stepsL, Lot.depthL] at *
      omega
    refine q H6 t6 _ _ ((e0.trans ea).trans F1.nil) (hDa.eff F1) (SqT.of (by rw [h6, ← eb])) lr ?_ ?_
    · rw [Lot.nodes, nodesL_rep]; simp only [Lot.nodes, Lot.nodesL]; omega
    · have hd := depthL_rep (3998 + j) (.row [])
      rw [Lot.depth]; simp only [Lot.depth, Lot.depthL] at *; omega
  · -- wide
    refine ⟨small (by simp), fun t0 n0 => ?_⟩
    have eb : Eff [] H0 (upd H0 t0 (.tup [.str "step"])) := Eff.refl.put n0
    have hb : (upd H0 t0 (.tup [.str "step"])) t0 = some (.tup [.str "step"]) := upd_same
    generalize (upd H0 t0 (.tup [.str "step"])) = Hb at *
    refine ⟨_, rfl, by decide, by decide, ?_⟩
    refine for_it walk_range (fun i σ H1 => (∃ v x5 lot, σ = [some (.ref d), some (.int k), none, none, none, x5, some v] ∧ LotAt K H1 lot v ∧ lot.depth = i + 1 ∧ lot.nodes + 1 = 2 ^ (i + 1) ∧ lot.steps = 2 ^ i) ∧ DealAt H1 d l ∧ Eff [d, l] H H1) ⟨⟨_, _, .step, rfl, lot_step (SqT.of hb), rfl, rfl, rfl⟩, hD0.eff eb, e0.trans eb.nil⟩ (fun _ _ _ _ _ => trivial) ?_ ?_
    · rintro i x σ H0' H0'' hi ⟨⟨v, x5, lot, rfl, hl, dl, nl, sl⟩, hD1, eH⟩ ⟨rfl, rfl⟩
      refine ⟨_, rfl, _, rfl, ?_⟩
      refine ⟨small (by simp), fun t1 n1 => ?_⟩
      have e1 : Eff [] H0'' (upd H0'' t1 (.tup [.str "both", v, v])) := Eff.refl.put n1
      have h1 : (upd H0'' t1 (.tup [.str "both", v, v])) t1 = some (.tup [.str "both", v, v]) := upd_same
      generalize (upd H0'' t1 (.tup [.str "both", v, v])) = H1 at *
      refine ⟨⟨_, _, .both lot lot, rfl, lot_both (SqT.of h1) (hl.same e1) (hl.same e1), ?_, ?_, ?_⟩, hD1.eff e1, eH.trans e1.nil⟩
      · simp only [Lot.depth]; omega
      · simp only [Lot.nodes]; rw [Nat.pow_succ]; omega
      · simp only [Lot.steps]; rw [Nat.pow_succ]; omega
    · rintro σ H0' ⟨⟨v, x5, lot, rfl, hl, dl, nl, sl⟩, hD1, eH⟩
      have e8 : (8 : Int).toNat = 8 := rfl
      rw [e8] at dl nl sl
      have nl : lot.nodes + 1 = 512 := nl
      have sl : lot.steps = 256 := sl
      refine ⟨_, rfl, ?_⟩
      refine ⟨small (by simp), fun t1 n1 => ?_⟩
      have e1 : Eff [] H0' (upd H0' t1 (.tup [.str "step"])) := Eff.refl.put n1
      have h1 : (upd H0' t1 (.tup [.str "step"])) t1 = some (.tup [.str "step"]) := upd_same
      generalize (upd H0' t1 (.tup [.str "step"])) = H1 at *
      refine ⟨small (by simp), fun t2 n2 => ?_⟩
      have e2 : Eff [] H1 (upd H1 t2 (.tup [])) := Eff.refl.put n2
      have h2 : (upd H1 t2 (.tup [])) t2 = some (.tup []) := upd_same
      generalize (upd H1 t2 (.tup [])) = H2 at *
      refine ⟨small (by simp), fun t3 n3 => ?_⟩
      have e3 : Eff [] H2 (upd H2 t3 (.tup [.str "row", .ref t2])) := Eff.refl.put n3
      have h3 : (upd H2 t3 (.tup [.str "row", .ref t2])) t3 = some (.tup [.str "row", .ref t2]) := upd_same
      generalize (upd H2 t3 (.tup [.str "row", .ref t2])) = H3 at *
      refine ⟨small (by simp), fun t4 n4 => ?_⟩
      have e4 : Eff [] H3 (upd H3 t4 (.tup [.str "both", .ref t1, .ref t3])) := Eff.refl.put n4
      have h4 : (upd H3 t4 (.tup [.str "both", .ref t1, .ref t3])) t4 = some (.tup [.str "both", .ref t1, .ref t3]) := upd_same
      generalize (upd H3 t4 (.tup [.str "both", .ref t1, .ref t3])) = H4 at *
      refine ⟨_, rfl, ?_⟩
      refine ⟨small (by simp), fun t5 n5 => ?_⟩
      have e5 : Eff [] H4 (upd H4 t5 (.tup [v, .ref t4, v])) := Eff.refl.put n5
      have h5 : (upd H4 t5 (.tup [v, .ref t4, v])) t5 = some (.tup [v, .ref t4, v]) := upd_same
      generalize (upd H4 t5 (.tup [v, .ref t4, v])) = H5 at *
      refine ⟨small (by simp), fun t6 n6 => ?_⟩
      have e6 : Eff [] H5 (upd H5 t6 (.tup [.str "row", .ref t5])) := Eff.refl.put n6
      have h6 : (upd H5 t6 (.tup [.str "row", .ref t5])) t6 = some (.tup [.str "row", .ref t5]) := upd_same
      generalize (upd H5 t6 (.tup [.str "row", .ref t5])) = H6 at *
      refine ⟨small (by simp), fun t7 n7 => ?_⟩
      have e7 : Eff [] H6 (upd H6 t7 (.tup [.ref t6, .bl true])) := Eff.refl.put n7
      have h7 : (upd H6 t7 (.tup [.ref t6, .bl true])) t7 = some (.tup [.ref t6, .bl true]) := upd_same
      generalize (upd H6 t7 (.tup [.ref t6, .bl true])) = H7 at *
      have F7 := e7
      have F6 := e6.trans F7
      have F5 := e5.trans F6
      have F4 := e4.trans F5
      have F3 := e3.trans F4
      have F2 := e2.trans F3
      have F1 := e1.trans F2
      have hv := hl.same F1
      have r3 : LotAt K H7 (.row []) (.ref t3) := lot_row (F4.seqT0 (SqT.of h3)) (F3.seqT0 (SqT.of h2)) lots_nil
      have b4 : LotAt K H7 (.both .step (.row [])) (.ref t4) := lot_both (F5.seqT0 (SqT.of h4)) (lot_step (F2.seqT0 (SqT.of h1))) r3
      have r6 : LotAt K H7 (.row [lot, .both .step (.row []), lot]) (.ref t6) := lot_row (F7.seqT0 (SqT.of h6)) (F6.seqT0 (SqT.of h5)) (lots_cons hv (lots_cons b4 (lots_cons hv lots_nil)))
      have eb2 : isLotD (Lot.row [lot, .both .step (.row []), lot]).data = true := by
        rw [isLot_iff]
        simp only [Lot.nodes, Lot.nodesL, Lot.depth, Lot.depthL, Lot.steps, Lot.stepsL]
        omega
      exact q H7 t7 _ _ (eH.trans F1.nil) (hD1.eff F1) (SqT.of (by rw [h7, eb2])) r6 (by simp only [Lot.nodes, Lot.nodesL]; omega) (by simp only [Lot.depth, Lot.depthL]; omega)
end
end HK
set_option Elab.async false
set_option linter.all false
set_option maxRecDepth 100000
set_option maxHeartbeats 400000
namespace HK
open PySem PySem.Spec PyProof.Rows L2
/-- a call of a local that holds one of several defs; what they let out flies on -/
def tCallG (i : Nat) (G : Addr → Prop) (sp : Sp) (E : XK) (t : TA) : TE := fun σ H Q => ∃ f, σ[i]? = some (some (.ref f)) ∧ G f ∧ t σ H fun vs H1 => sp vs H1 Q E
theorem pe_callG {X : Cx} {CX : CXT} {k i : Nat} {ps : List Str} {sp : Sp} {E : XK} {x : Str} {p pos : Pos} {e : Expr} {es : List Expr} {t : TA} {G : Addr → Prop} (hG : ∀ f, G f → ∃ fd, PySem.W.keepIn X.K (.ref f) = true ∧ Binds X.K fd ps [] ∧ FnOk X.prog X.w X.K X.mg X.base CX k f fd ps sp)
    (hr : Room k X.A) (hN : X.N[i]? = some x) (hv : Vis X.env.scope x) (hx : Passes CX X E) (ha : PA X (e :: es) t) (hdb : (x == ("__debug__" : Str)) = false := by decide) (hcd : (x == ("__classdict__" : Str)) = false := by decide)
    (he : starEach (e :: es) X.env = (false, eval e X.env) :: starEach es X.env := by rfl) (hpl : (backTo pos (starEach es X.env)).any (·.1) = false := by rfl) : PE X (.Call (.Name x p) (e :: es) [] pos) (tCallG i G sp E t) := by
  refine ⟨fun pins s σ H Q I h => ?_⟩
  obtain ⟨f, hs, hg, ht⟩ := h
  obtain ⟨fd, hk, hb, F⟩ := hG f hg
  refine (pe_callL (i := i) (f := f) (dvs := []) F hr hN hv hk hb .nil hx ha hdb hcd he hpl).run pins s σ H Q I ⟨hs, ?_⟩
  have e0 : (fun (vs : List V) (H1 : Hp) => sp (vs ++ []) H1 Q E) = fun vs H1 => sp vs H1 Q E := by
    funext vs H1
    rw [List.append_nil]
  rw [e0]
  exact ht
theorem lamS_in {sc scope : Scope} {env : Env} (h : LamX.LamS sc scope) : LamX.LamS (relabel sc env) scope := ⟨h.kind, h.co, h.gen, h.own, fun y hy e => lookup_relab (h.free y hy e)⟩
/-- what no lot is, asked of any of the five -/
def spBad (K : PySem.W.Frag) : Sp := fun vs H _ E => ∃ v M d, vs = [v] ∧ At K M H d v ∧ sizeD d ≤ 1000000 ∧ isLotD d = false ∧ Refuse E (IQ K) 0 H
section
variable {w : World} {K : PySem.W.Frag} {mg : Str → Option Value} {base : Heap}
theorem bad_of {x : Str} {k : Nat} {ps : List Str} {post : Lot → Hp → VK → Prop} (C : Cal PP w K mg base (L2.CX PP w) x k ps (spAsk K post)) : Cal PP w K mg base (L2.CX PP w) x k ps (spBad K) :=
  C.imp fun vs H Q E ⟨v, M, d, h1, h2, h3, h4, h5⟩ => ⟨v, h1, .inr ⟨M, d, h2, h3, h4, h5⟩⟩
/-- one of the five defs -/
def Five (w : World) (K : PySem.W.Frag) (mg : Str → Option Value) (base : Heap) (f : Addr) : Prop := ∃ fd, PySem.W.keepIn K (.ref f) = true ∧ Binds K fd ["lot"] [] ∧ FnOk PP w K mg base (L2.CX PP w) 125 f fd ["lot"] (spBad K)
theorem five_of {x : Str} {f : Addr} (C : Cal PP w K mg base (L2.CX PP w) x 125 ["lot"] (spBad K)) (hm : mg x = some (.ref f)) : Five w K mg base f := by
  obtain ⟨f', fd, hm', hk, hb, F, _⟩ := C
  rw [hm] at hm'
  cases hm'
  exact ⟨fd, hk, hb, F⟩
abbrev qL : Str := (envOfC "law" sp_law 0 0 .none).qual ++ ("<lambda>" : Str)
/-- the reading of _law_heard_time(lambda: work_of(near)) -/
def teLam (w : World) (K : PySem.W.Frag) (mg : Str → Option Value) (base : Heap) (P : Addr) : TE := LamX.tLam [(P, qL)] (TTq (IQ K)) (fun E => tCallG 16 (Five w K mg base) (spBad K) E (tCons (tVar 13) tNil))
def cs_heard : Scope := { kind := ScopeKind.function, names := [(".0", NameKind.local), ("work_of", NameKind.cell), ("_law_heard_time", NameKind.globalImplicit), ("near", NameKind.free)], isGenerator := false, isCoroutine := false }
def ls_heard : Scope := { kind := ScopeKind.function, names := [("near", NameKind.free), ("work_of", NameKind.free)], isGenerator := false, isCoroutine := false }
theorem lam_elt (T : Tx K mg) {c P : Addr} (TB : LamX.TabB base mg c P) {k : Nat} {A : Around} {outer : List Env} {s0 : Shared} {H0 : Hp} {E0 : XK} {f : Addr} (hr : Room (k + 2) (A.deeper (envOfC "law" sp_law s0.heap.objs.size f (.ref c)))) (hk : 125 ≤ k)
    (s : Shared) (H : Hp) (C : Addr) (cl : List (Str × Addr)) (fp : List Addr) {p1 p2 p3 p4 p5 p6 : Pos} :
    PE ((cxOf CX0 PP w K mg base nm_law "law" sp_law f (.ref c) A outer s0 H0 E0).nox.blk s H cs_heard (compEnvC cs_heard cl C (cxOf CX0 PP w K mg base nm_law "law" sp_law f (.ref c) A outer s0 H0 E0).nox.env) fp)
      (.Call (.Name "_law_heard_time" p1) [.Lambda { posonlyargs := [], args := [], vararg := none, kwonlyargs := [], kw_defaults := [], kwarg := none, defaults := [] } (.Call (.Name "work_of" p2) [.Name "near" p3] [] p4) ls_heard p5] [] p6) (teLam w K mg base P) := by
  obtain ⟨h, XI, G, cc⟩ := T.ex
  obtain ⟨fd, F⟩ := cc.d.def_ 20 rfl
  have hb := F.bindsN (ps := ["deed"]) fun _ _ _ _ _ _ us hl => match us, hl with | [_], _ => rfl
  obtain ⟨oc, od, dV, kV, doc, pm, an, cdv, ct, osl, rfl, lk, hcd, _, _⟩ := F.ex
  refine LamX.pe_lamcall (k := k) (c := c) (P := P) (a := "deed") (Ng := nm_law_heard_time) (TT := TTq (IQ K)) (t := fun E => tCallG 16 (Five w K mg base) (spBad K) E (tCons (tVar 13) tNil)) rfl T.g_law_heard_time F.kp lk hcd hb sc_law_heard_time rfl (.inl rfl)
    (heard_gives T.x_InvalidModule T.x_InvalidState T.x_InvalidValue T.x_InvalidQuestion T.x_Refused T.g_InvalidModule T.g_InvalidState T.g_InvalidValue T.g_InvalidQuestion T.g_Refused T.e_InvalidQuestion_InvalidModule T.e_InvalidQuestion_InvalidState T.e_InvalidQuestion_InvalidValue T.e_InvalidQuestion_InvalidQuestion)
    TB rfl (List.mem_singleton.mpr rfl) (fun p hp _ => by (rw [List.mem_singleton.mp hp]; rfl)) hr (lamS_in (LamX.lamS_by (by decide +kernel))) rfl (fun _ _ _ _ _ => rfl) fun A' outer' s' H' E' f' c' hr' => ?_
  exact pe_callG (k := 125) (fun f hf => hf) (hr'.mono (by omega)) rfl (.inr (.inr rfl)) (passes_call (takes_of rfl rfl rfl rfl) fun _ _ _ _ h => h) (pa_cons (pv 13) pa_nil)
end
end HK
set_option Elab.async false
set_option linter.all false
set_option maxRecDepth 100000
set_option maxHeartbeats 1000000
namespace HK
open PySem PySem.Spec PyProof.Rows L2
/-! ### pieces of law -/
def rLenD0 : List V → Hp → VK → Prop := fun xs H Q => ∃ a kvs, xs = [V.ref a] ∧ H a = some (.dK kvs) ∧ Q (.int kvs.length) H
theorem cr_lenD0 {X : Cx} : CallR X (.builtin "len") rLenD0 := call_lenD
def rTupOf (K : PySem.W.Frag) : List V → Hp → VK → Prop := fun xs H Q => ∃ p ys, xs = [.ref p] ∧ ((SqL K H p ys ∧ ∀ l, H l = none → Q (.ref l) (upd H l (.tup ys))) ∨ (SqT K H p ys ∧ Q (.ref p) H))
theorem cr_tupOf {X : Cx} : CallR X (.type "tuple") (rTupOf X.K) := call_tuple_of
theorem max_lev (l : Lot) {k : Nat} (hk : k ∈ 0 :: (List.range l.steps).map (levF l 0 0)) (hle : ∀ y ∈ 0 :: (List.range l.steps).map (levF l 0 0), y ≤ k) : k = l.span := by
  have up : k ≤ l.span := by
    rcases List.mem_cons.mp hk with e | hk
    · omega
    · obtain ⟨j, hj, rfl⟩ := List.mem_map.mp hk
      have hj := List.mem_range.mp hj
      have := (lev_in l 0 0 j (Nat.zero_le _) (by omega)).2
      omega
  by_cases z : l.steps = 0
  · have := (span_zero l).mp z
    omega
  · obtain ⟨i, hi, e⟩ := lev_last l 0 0 (by omega)
    have q := lasts_in l 0 i hi
    have := hle _ (List.mem_cons_of_mem _ (List.mem_map.mpr ⟨i, List.mem_range.mpr (by omega), rfl⟩))
    omega
section
variable {K : PySem.W.Frag} {H : Hp} {d l ah du dc : Addr} {bs : List Addr} {lot : Lot}
/-- lot = _law_lot_of_few(deal, 11) if turns < 2 else _law_lot_of_few(deal, 120) -/
theorem few_if {c : Bool} {σ : L2.St} {Q : VK} (h1 : σ[1]? = some (some (.ref d))) (hD : DealAt H d l)
    (go : ∀ H' v lot, Eff [d, l] H H' → DealAt H' d l → LotAt K H' lot v → lot.depth ≤ 5 → lot.nodes ≤ 625 → lot.steps ≤ 120 → Q v H') :
    if c = true then tCall (spFew K) [] E0 (tCons (tVar 1) (tCons (tC (.int 11)) tNil)) σ H Q else tCall (spFew K) [] E0 (tCons (tVar 1) (tCons (tC (.int 120)) tNil)) σ H Q := by
  refine ite2 (fun _ => ⟨_, h1, d, l, 11, rfl, by decide, hD, fun H' v lot a1 a2 a3 a4 a5 a6 => go H' v lot a1 a2 a3 a4 a5 (by omega)⟩) (fun _ => ⟨_, h1, d, l, 120, rfl, by decide, hD, go⟩)
/-- tuple([some[step] for step in sorted(ahead)]) -/
theorem tup_keys {i : Nat} {ks : List Nat} {g : Nat → Nat} {x0 x1 x2 x3 x4 x5 x6 x7 x8 x9 x10 x11 x12 x13 x14 x15 x16 : Option V} {Q : VK} (hA : AhAt H ah bs lot) (hn : lot.steps ≤ 1000)
    (h4 : x4 = some (.ref ah)) (hi : ([x0, x1, x2, x3, x4, x5, x6, x7, x8, x9, x10, x11, x12, x13, x14] : L2.St)[i]? = some (some (.ref dc))) (hd : H dc = some (.dK (keysK ks g))) (hks : ∀ j, j < lot.steps → j ∈ ks)
    (q : ∀ H' t, Eff [] H H' → SqT K H' t (nats ((List.range lot.steps).map g)) → Q (.ref t) H') :
    tCB (rTupOf K) (tCons (tLc (iList K (tCB rSortedDI (tCons (tVar 4) tNil))) (gName 15) tYes (tDGet (tVar i) (tVar 15)) [15]) tNil) [x0, x1, x2, x3, x4, x5, x6, x7, x8, x9, x10, x11, x12, x13, x14, x15, x16] H Q := by
  subst h4
  refine ⟨_, rfl, ah, _, _, rfl, .inl hA.top, hA.keys, fun ys p hp hs np => ?_⟩
  rw [sorted_keys hp hs]
  have eP : Eff [] H (upd H p (.lst (nats (List.range lot.steps)))) := Eff.refl.put np
  have hP : (upd H p (.lst (nats (List.range lot.steps)))) p = some (.lst (nats (List.range lot.steps))) := upd_same
  generalize (upd H p (.lst (nats (List.range lot.steps)))) = H1 at *
  refine ⟨p, rfl, ⟨_, .inl (.inl hP)⟩, fun D nD => ?_⟩
  refine lc_list (K := K) (a := p) (xs := nats (List.range lot.steps)) (fun m H2 => H2 D = some (.lst (nats ((List.range m).map g))) ∧ Eff [] H1 H2) ⟨upd_same, Eff.refl.put nD⟩ (fun m H2 _ h => .inl (.inl (h.2 _ _ hP (by simp)))) ?_ ?_
  · rintro m z H2 hz ⟨hD, e2⟩
    obtain ⟨j, hj, rfl⟩ := nats_get hz
    have hm := (List.getElem?_eq_some_iff.mp hj).1
    rw [List.length_range] at hm
    obtain rfl : m = j := by
      rw [List.getElem?_range hm] at hj
      exact Option.some.inj hj
    have hi15 : ([x0, x1, x2, x3, some (.ref ah), x5, x6, x7, x8, x9, x10, x11, x12, x13, x14, some (.int (m : Nat)), x16] : L2.St)[i]? = some (some (.ref dc)) := by
      have hil := (List.getElem?_eq_some_iff.mp hi).1
      have e := List.getElem?_append_left (l₂ := [some (V.int (m : Nat)), x16]) hil
      exact e.trans hi
    refine ⟨rfl, yes_go ⟨_, hi15, _, rfl, dc, _, rfl, .inl ⟨_, .inl (m : Int), .inl (e2 _ _ (eP _ _ hd (by simp)) (by simp)), rfl, (keysK_val (hks m hm)).symm⟩, _, hD, ?_, ?_, e2.put nD⟩⟩
    · rw [nats_len, List.length_map, List.length_range]
      exact Nat.lt_of_lt_of_le (show _ < 1000001 by omega) (by decide)
    · rw [upd_same, List.range_succ, List.map_append, nats_append]
      rfl
  · rintro H2 ⟨hD, e2⟩
    rw [nats_len, List.length_range] at hD
    exact ⟨D, _, rfl, .inl ⟨.inl (.inl hD), fun t nt => q _ t ((eP.trans e2).put ((eP.trans e2).free nt (by simp))) (SqT.of upd_same)⟩⟩
/-- max([0] + [low[step] for step in low]) -/
theorem max_low {x0 x1 x2 x3 x4 x5 x6 x7 x8 x9 x10 x11 x12 x13 x14 x15 x16 : Option V} {Q : VK} (hn : lot.steps ≤ 1000) (h6 : x6 = some (.ref dc)) (hd : H dc = some (.dK (keysK (List.range lot.steps) (levF lot 0 0))))
    (q : ∀ H', Eff [] H H' → Q (.int (lot.span : Nat)) H') :
    tCB (rMax K) (tCons (tOp rCat (tLst (tCons (tC (.int 0)) tNil)) (tLockE (tLc (iKeys (tVar 6)) (gName 15) tYes (tDGet (tVar 6) (tVar 15)) [15]))) tNil) [x0, x1, x2, x3, x4, x5, x6, x7, x8, x9, x10, x11, x12, x13, x14, x15, x16] H Q := by
  subst h6
  refine ⟨small (by simp), fun o no => ?_⟩
  have eo : Eff [] H (upd H o (.lst [.int 0])) := Eff.refl.put no
  have ho : (upd H o (.lst [.int 0])) o = some (.lst [.int 0]) := upd_same
  have hd1 := eo _ _ hd (by simp)
  generalize (upd H o (.lst [.int 0])) = H1 at *
  refine ⟨dc, _, hd1, trivial, fun od => ⟨_, rfl, dc, od, rfl, .inl ⟨_, upd_same, fun D nD => ?_⟩⟩⟩
  have nod : o ≠ dc := ne_of ho hd1 (by intro z; cases z)
  have hd2 : (upd H1 dc (.frz od (.dK (keysK (List.range lot.steps) (levF lot 0 0))))) dc = some (.frz od (.dK (keysK (List.range lot.steps) (levF lot 0 0)))) := upd_same
  have ho2 : (upd H1 dc (.frz od (.dK (keysK (List.range lot.steps) (levF lot 0 0))))) o = some (.lst [.int 0]) := (upd_ne nod).trans ho
  have e12 : Eff [dc] H1 (upd H1 dc (.frz od (.dK (keysK (List.range lot.steps) (levF lot 0 0))))) := Eff.refl.set (by simp)
  generalize (upd H1 dc (.frz od (.dK (keysK (List.range lot.steps) (levF lot 0 0))))) = H2 at *
  refine lc_it walk_keys (fun m H3 => H3 D = some (.lst (nats ((List.range m).map (levF lot 0 0)))) ∧ Eff [] H2 H3) ⟨upd_same, Eff.refl.put nD⟩ (fun m H3 _ h => h.2 _ _ hd2 (by simp)) ?_ ?_
  · rintro m z H3 H3' hm ⟨hD, e3⟩ ⟨rfl, key, v, hkv, rfl⟩
    rw [keysK_len, List.length_range] at hm
    obtain ⟨one, hone, rfl⟩ := keysK_get hkv
    obtain rfl : m = one := by
      rw [List.getElem?_range hm] at hone
      exact Option.some.inj hone
    refine ⟨rfl, yes_go ⟨_, rfl, _, rfl, dc, _, rfl, .inl ⟨_, .inl (m : Int), .inr ⟨od, e3 _ _ hd2 (by simp)⟩, rfl, (keysK_val (List.mem_range.mpr hm)).symm⟩, _, hD, ?_, ?_, e3.put nD⟩⟩
    · rw [nats_len, List.length_map, List.length_range]
      exact Nat.lt_of_lt_of_le (show _ < 1000001 by omega) (by decide)
    · rw [upd_same, List.range_succ, List.map_append, nats_append]
      rfl
  · rintro H3 ⟨hD, e3⟩
    rw [keysK_len, List.length_range] at hD
    refine ⟨e3 _ _ hd2 (by simp), ?_⟩
    have nDd : D ≠ dc := (ne_of_none hd2 nD).symm
    have e4 : Eff [] H (upd H3 dc (.dK (keysK (List.range lot.steps) (levF lot 0 0)))) := fun b u hb _ => by
      by_cases c : b = dc
      · rw [c] at hb ⊢
        rw [upd_same, ← hd, hb]
      · rw [upd_ne c]
        exact e3 _ _ (e12 _ _ (eo _ _ hb (by simp)) (by simp [c])) (by simp)
    have ho4 := (upd_ne (H := H3) (o := .dK (keysK (List.range lot.steps) (levF lot 0 0))) nod).trans (e3 _ _ ho2 (by simp))
    have hD4 := (upd_ne (H := H3) (o := .dK (keysK (List.range lot.steps) (levF lot 0 0))) nDd).trans hD
    generalize (upd H3 dc (.dK (keysK (List.range lot.steps) (levF lot 0 0)))) = H4 at *
    refine ⟨o, D, _, _, rfl, rfl, ho4, hD4, ?_, fun o3 no3 => ?_⟩
    · rw [nats_len, List.length_map, List.length_range]
      exact Nat.le_trans (show _ ≤ 1000001 by simp; omega) (by decide)
    have em : [V.int 0] ++ nats ((List.range lot.steps).map (levF lot 0 0)) = (((0 :: (List.range lot.steps).map (levF lot 0 0)).map fun n : Nat => (n : Int)).map V.int) := by
      rw [← nats_ints]
      rfl
    rw [em]
    refine ⟨o3, _, rfl, .inl (.inl upd_same), by simp, fun m hm hle => ?_⟩
    obtain ⟨k, hk, rfl⟩ := List.mem_map.mp hm
    rw [max_lev lot hk fun y hy => Int.ofNat_le.mp (hle y (List.mem_map.mpr ⟨y, hy, rfl⟩))]
    exact q _ (e4.put (e4.free no3 (by simp)))
/-- len(ahead) < 12 and _law_widest(ahead) != due[2] -/
theorem cond_widest {σ : L2.St} {Q : Bool → Hp → Prop} {y0 y1 : V} {ys : List V} (h4 : σ[4]? = some (some (.ref ah))) (h7 : σ[7]? = some (some (.ref du))) (hA : AhAt H ah bs lot) (hdu : H du = some (.lst (y0 :: y1 :: .int (lot.width : Nat) :: ys))) (go : ∀ H', Eff [] H H' → Q false H') :
    tAnd (tTest (tOp (rI0 fun i j => .bl (decide (i < j))) (tCB rLenD0 (tCons (tVar 4) tNil)) (tC (.int 12)))) (tTest (tOp rNe (tCall (spWidest K) [] E0 (tCons (tVar 4) tNil)) (tOp (rIxL K) (tVar 7) (tC (.int 2))))) σ H Q := by
  refine ⟨_, h4, ah, _, rfl, hA.top, _, _, rfl, rfl, _, rfl, ite2 (fun c => ?_) (fun _ => go H Eff.refl)⟩
  have c : (((ahK 0 (bs.map V.ref)).length : Nat) : Int) < 12 := of_decide_eq_true c
  rw [ahK_len, List.length_map, hA.len] at c
  refine ⟨_, h4, ah, bs, lot, rfl, hA, by omega, fun H1 e1 => ⟨_, h7, du, _, 2, _, rfl, rfl, .inl (.inl (e1 _ _ hdu (by simp))), atI_nat (j := 2) rfl, rfl, _, rfl, ?_⟩⟩
  have z : (!decide (V.int (lot.width : Nat) = V.int (lot.width : Nat))) = false := by simp
  rw [z]
  exact go H1 e1
/-- right and not _law_same([work_in(lot), width(lot)], [_law_steps(lot), _law_cut_width(lot)]) -/
theorem cond_right {σ : L2.St} {v : V} {E1 E2 E3 E4 E5 : XK} {Q : Bool → Hp → Prop} (h3 : σ[3]? = some (some v)) (h12 : σ[12]? = some (some (.bl (isLotD lot.data)))) (hl : LotAt K H lot v) (n5 : lot.nodes ≤ 5000) (d61 : lot.depth ≤ 61) (go : ∀ H', Eff [] H H' → Q false H') :
    tAnd (tB (tVar 12)) (tNot (tB (tCall (spSame K 3) [] E1 (tCons (tLst (tCons (tCall (spAsk K (postNum Lot.steps)) [] E2 (tCons (tVar 3) tNil)) (tCons (tCall (spAsk K (postNum Lot.width)) [] E3 (tCons (tVar 3) tNil)) tNil)))
      (tCons (tLst (tCons (tCall (spNum K Lot.steps 61) [] E4 (tCons (tVar 3) tNil)) (tCons (tCall (spNum K Lot.width 61) [] E5 (tCons (tVar 3) tNil)) tNil))) tNil))))) σ H Q := by
  refine ⟨_, h12, _, rfl, ite2 (fun c => ?_) (fun _ => go H Eff.refl)⟩
  refine ⟨_, h3, v, rfl, .inl ⟨lot, hl, c, fun H1 e1 => ?_⟩⟩
  refine ⟨_, h3, v, rfl, .inl ⟨lot, hl.same e1, c, fun H2 e2 => ⟨small (by simp), fun t nt => ?_⟩⟩⟩
  have e12 := e1.trans e2
  have et : Eff [] H2 (upd H2 t (.lst [.int (lot.steps : Nat), .int (lot.width : Nat)])) := Eff.refl.put nt
  have ht : (upd H2 t (.lst [.int (lot.steps : Nat), .int (lot.width : Nat)])) t = some (.lst [.int (lot.steps : Nat), .int (lot.width : Nat)]) := upd_same
  generalize (upd H2 t (.lst [.int (lot.steps : Nat), .int (lot.width : Nat)])) = H3 at *
  have e13 := e12.trans et
  refine ⟨_, h3, v, lot, rfl, hl.same e13, d61, by omega, fun H4 e4 => ?_⟩
  refine ⟨_, h3, v, lot, rfl, (hl.same e13).same e4, d61, by omega, fun H5 e5 => ⟨small (by simp), fun u nu => ?_⟩⟩
  have e35 := e4.trans e5
  have eu : Eff [] H5 (upd H5 u (.lst [.int (lot.steps : Nat), .int (lot.width : Nat)])) := Eff.refl.put nu
  refine ⟨.ref t, .ref u, .list [.int (lot.steps : Nat), .int (lot.width : Nat)], rfl, ?_, ?_, ?_, fun H6 e6 => ⟨_, rfl, go H6 (((e13.trans e35).trans eu).trans e6)⟩⟩
  · intro x hx
    simp only [List.mem_cons, List.not_mem_nil, or_false] at hx
    rcases hx with rfl | rfl <;> exact trivial
  · exact ⟨t, _, rfl, (e35.trans eu) _ _ ht (by simp), by simp, _, _, rfl, rfl, _, _, rfl, rfl, rfl⟩
  · exact ⟨u, _, rfl, upd_same, by simp, _, _, rfl, rfl, _, _, rfl, rfl, rfl⟩
/-- [] if right else [lot] -/
theorem tail_if {σ : L2.St} {v : V} {Q : VK} (h3 : σ[3]? = some (some v)) (h12 : σ[12]? = some (some (.bl (isLotD lot.data)))) (go : ∀ H' p ys, Eff [] H H' → H' p = some (.lst ys) → (ys = [] ∨ (ys = [v] ∧ isLotD lot.data = false)) → Q (.ref p) H') :
    tIf (tB (tVar 12)) (tLst tNil) (tLst (tCons (tVar 3) tNil)) σ H Q := by
  refine ⟨_, h12, _, rfl, ite2 (fun c => ⟨small (by simp), fun p np => go _ p [] (Eff.refl.put np) upd_same (.inl rfl)⟩) (fun c => ⟨_, h3, small (by simp), fun p np => go _ p [v] (Eff.refl.put np) upd_same (.inr ⟨rfl, by simpa using c⟩)⟩)⟩
end
end HK
set_option Elab.async false
set_option linter.all false
set_option maxRecDepth 100000
set_option maxHeartbeats 1000000
namespace HK
open PySem PySem.Spec PyProof.Rows L2
section
variable {w : World} {K : PySem.W.Frag} {mg : Str → Option Value} {base : Heap}
theorem passN {X : Cx} : Passes (L2.CX X.prog X.w) X (fun _ _ _ => False) := fun _ _ _ _ _ _ _ c => by
  obtain ⟨_, _, _, _, _, _, _, _, _, _, _, _, z⟩ := c
  exact z.elim
def cL (K : PySem.W.Frag) : Addr := (He.cT K ("law", none)).1
def cP (K : PySem.W.Frag) : Addr := (He.cT K ("law", none)).2
def spLaw (K : PySem.W.Frag) (P : Addr) : Sp := fun vs H Q _ => ∃ (a : Addr) (ns : List Int), vs = [.ref a] ∧ SqL K H a (ns.map V.int) ∧ H P = some (.tbl #[]) ∧ ∀ H', Q (.bl true) H'
theorem SqT.ext {H H1 : Hp} {a : Addr} {xs : List V} (h : SqT K H a xs) (e : LamX.ExtN H H1) : SqT K H1 a xs := by
  rcases h with (h | ⟨o, h⟩) | h
  · exact .inl (.inl (e _ _ h (by intro ps z; cases z)))
  · exact .inl (.inr ⟨o, e _ _ h (by intro ps z; cases z)⟩)
  · exact .inr h
mutual
theorem At.ext {M : List Addr} {H H1 : Hp} (e : LamX.ExtN H H1) : ∀ (d : PyData) (v : V), At K M H d v → At K M H1 d v
  | .none, v, h => h
  | .bool _, v, h => h
  | .int _, v, h => h
  | .str _, v, h => h
  | .list ds, v, ⟨a, xs, ev, ha, n, hl⟩ => ⟨a, xs, ev, e _ _ ha (by intro ps z; cases z), n, AtL.ext e ds xs hl⟩
  | .tuple ds, v, ⟨a, xs, ev, ha, hl⟩ => ⟨a, xs, ev, SqT.ext ha e, AtL.ext e ds xs hl⟩
  | .dict kvs, v, ⟨e0, a, ev, ha, n⟩ => ⟨e0, a, ev, e _ _ ha (by intro ps z; cases z), n⟩
theorem AtL.ext {M : List Addr} {H H1 : Hp} (e : LamX.ExtN H H1) : ∀ (ds : List PyData) (vs : List V), AtL K M H ds vs → AtL K M H1 ds vs
  | [], vs, h => h
  | d :: ds, vs, ⟨v, r, ev, h1, h2⟩ => ⟨v, r, ev, At.ext e d v h1, AtL.ext e ds r h2⟩
end
theorem tabs_put {T : List (Addr × Str)} {H : Hp} {D : Addr} {xs ys : List V} (h : LamX.Tabs T H) (hD : H D = some (.lst xs)) : LamX.Tabs T (upd H D (.lst ys)) := fun p hp => by
  obtain ⟨ps, h1, h2, h3⟩ := h p hp
  refine ⟨ps, (upd_ne (ne_of h1 hD (by intro z; cases z))).trans h1, h2, fun pos cv hc => ?_⟩
  obtain ⟨c, e1, e2⟩ := h3 pos cv hc
  exact ⟨c, e1, (upd_ne (ne_of e2 hD (by intro z; unfold LamX.CodeO at z; cases z))).trans e2⟩
theorem atl_rep {H : Hp} {d0 : PyData} : ∀ {us : List V}, (∀ u ∈ us, At K [] H d0 u) → AtL K [] H (List.replicate us.length d0) us
  | [], _ => rfl
  | u :: r, h => ⟨u, r, rfl, h u (by simp), atl_rep fun x hx => h x (by simp [hx])⟩
def natsD (l : List Nat) : PyData := .tuple ((l.map fun n : Nat => (n : Int)).map PyData.int)
theorem at_nats {H : Hp} {a : Addr} {l : List Nat} (h : SqT K H a (nats l)) : At K [] H (natsD l) (.ref a) := ⟨a, nats l, rfl, h, by rw [nats_ints]; exact AtL.ints _⟩
theorem ok_nats (n : Nat) (l : List Nat) : okD (n + 2) (natsD l) := fun d hd => by
  obtain ⟨i, _, rfl⟩ := List.mem_map.mp hd
  exact trivial
theorem law_body (T : Tx K mg) {c P : Addr} (TB : LamX.TabB base mg c P) {A : Around} {outer : List Env} {s : Shared} {H : Hp} {vs : List V} {Q : VK} {E : XK} {f : Addr} (hr : Room 130 (A.deeper (envOfC "law" sp_law s.heap.objs.size f (.ref c)))) (h : spLaw K P vs H Q E) :
    ∃ t, PSs (cxOf CX0 PP w K mg base nm_law "law" sp_law f (.ref c) A outer s H E).nox (defBody s_law) t ∧ t { nx := fun _ H' => Q .non H', rt := Q } (start nm_law vs) H := by
  have c_law_draw := ok_draw (w := w) (base := base) T
  have c_law_lot_of_few := ok_few (w := w) (base := base) T
  have c_law_ahead := ok_ahead (w := w) (base := base) T 5
  have c_law_heights := ok_law_hei (w := w) (base := base) T
  have c_law_longest := ok_longest (w := w) (base := base) T
  have c_law_cut_width := ok_cut (w := w) (base := base) T 61
  have c_law_steps := ok_steps (w := w) (base := base) T 61
  have c_law_same := ok_same (w := w) (base := base) T 3
  have c_law_widest := ok_widest (w := w) (base := base) T
  have c_law_some_lot := ok_some (w := w) (base := base) T 4
  have c_law_many_lot := ok_many (w := w) (base := base) T
  have c_law_of := ok_of (w := w) (base := base) T
  have c_is_lot := ok_is_lot (w := w) (base := base) T
  have c_is_lot_k := T.kw0_is_lot c_is_lot
  have c_work_in := ok_work_in (w := w) (base := base) T
  have c_span := ok_span (w := w) (base := base) T
  have c_width := ok_width (w := w) (base := base) T
  have c_heights := ok_heights (w := w) (base := base) T
  have c_levels := ok_levels (w := w) (base := base) T
  have c_work_in_k := T.kw0_work_in c_work_in
  have c_span_k := T.kw0_span c_span
  have c_width_k := T.kw0_width c_width
  have c_heights_k := T.kw0_heights c_heights
  have c_levels_k := T.kw0_levels c_levels
  obtain ⟨a, ns, rfl, ha, hP, q⟩ := h
  refine ⟨_, (pss_cons (ps_set (i := 1) (sc_law).nd rfl (by first | exact Or.inl rfl | exact Or.inr rfl) (pe_c c_law_draw (hr.mono (by first | decide | omega)) pass0 (pa_cons (pv 0) (pa_cons pe_int pa_nil))))
      (pss_cons (ps_for PassesOwn.never rfl (pi_range1 (by rfl) T.z_range (pa_cons pe_int pa_nil)) (pg_name (i := 2) (sc_law).nd rfl (by first | exact Or.inl rfl | exact Or.inr rfl)) (pss_cons (ps_set (i := 3) (sc_law).nd rfl (by first | exact Or.inl rfl | exact Or.inr rfl) (pe_ifExp (pt_cmpR op_lt (pv 2) pe_int (nomark _)) (pe_c c_law_lot_of_few (hr.mono (by first | decide | omega)) pass0 (pa_cons (pv 1) (pa_cons pe_int pa_nil))) (pe_c c_law_lot_of_few (hr.mono (by first | decide | omega)) pass0 (pa_cons (pv 1) (pa_cons pe_int pa_nil)))))
      (pss_cons (ps_set (i := 4) (sc_law).nd rfl (by first | exact Or.inl rfl | exact Or.inr rfl) (pe_c c_law_ahead (hr.mono (by first | decide | omega)) pass0 (pa_cons (pv 3) (pa_cons pe_int pa_nil))))
      (pss_cons (ps_asg (pe_tup (pa_cons (pe_c c_law_heights (hr.mono (by first | decide | omega)) pass0 (pa_cons (pv 4) pa_nil)) (pa_cons (pe_c c_law_longest (hr.mono (by first | decide | omega)) pass0 (pa_cons (pv 4) pa_nil)) pa_nil))) (pg_tup rfl (pgs_cons (pg_name (i := 5) (sc_law).nd rfl (by first | exact Or.inl rfl | exact Or.inr rfl)) (pgs_cons (pg_name (i := 6) (sc_law).nd rfl (by first | exact Or.inl rfl | exact Or.inr rfl)) pgs_nil))))
      (pss_cons (ps_set (i := 7) (sc_law).nd rfl (by first | exact Or.inl rfl | exact Or.inr rfl) (pe_lst (pa_cons (pe_callB cr_lenD0 (by rfl) T.z_len (by decide +kernel) (pa_cons (pv 4) pa_nil)) (pa_cons (pe_callB (cr_max rfl) (by rfl) T.z_max (by decide +kernel) (pa_cons (pe_op op_cat (pe_lst (pa_cons pe_int pa_nil)) (pe_lock (pe_lc (own := [("step", 15)]) (g := (gName 15)) (te := (tDGet (tVar 6) (tVar 15))) (tt := tYes) (by rfl) (sc_law).nd (pi_keys (pv 6)) (blkOk_by (own := [("step", 15)]) (N := nm_law) (sc := sp_law) (by decide +kernel)) (fun _ _ _ _ _ => (pg_name (i := 15) (sc_law).nd rfl (by first | exact Or.inl rfl | exact Or.inr rfl))) (fun _ _ _ _ _ => pts_nil) (fun _ _ _ _ _ => (pe_dget (hu_of hr) (pv 6) (pv 15) (fun _ _ => rfl)))))) pa_nil)) (pa_cons (pe_c c_law_cut_width (hr.mono (by first | decide | omega)) pass0 (pa_cons (pv 3) pa_nil)) (pa_cons (pe_callTy cr_tupOf (by rfl) T.z_tuple (by decide +kernel) (pa_cons (pe_lc (own := [("step", 15)]) (g := (gName 15)) (te := (tDGet (tVar 5) (tVar 15))) (tt := tYes) (by rfl) (sc_law).nd (pi_list (pe_callB (cr_sortedDI rfl) (by rfl) T.z_sorted (by decide +kernel) (pa_cons (pv 4) pa_nil))) (blkOk_by (own := [("step", 15)]) (N := nm_law) (sc := sp_law) (by decide +kernel)) (fun _ _ _ _ _ => (pg_name (i := 15) (sc_law).nd rfl (by first | exact Or.inl rfl | exact Or.inr rfl))) (fun _ _ _ _ _ => pts_nil) (fun _ _ _ _ _ => (pe_dget (hu_of hr) (pv 5) (pv 15) (fun _ _ => rfl)))) pa_nil)) (pa_cons (pe_callTy cr_tupOf (by rfl) T.z_tuple (by decide +kernel) (pa_cons (pe_lc (own := [("step", 15)]) (g := (gName 15)) (te := (tDGet (tVar 6) (tVar 15))) (tt := tYes) (by rfl) (sc_law).nd (pi_list (pe_callB (cr_sortedDI rfl) (by rfl) T.z_sorted (by decide +kernel) (pa_cons (pv 4) pa_nil))) (blkOk_by (own := [("step", 15)]) (N := nm_law) (sc := sp_law) (by decide +kernel)) (fun _ _ _ _ _ => (pg_name (i := 15) (sc_law).nd rfl (by first | exact Or.inl rfl | exact Or.inr rfl))) (fun _ _ _ _ _ => pts_nil) (fun _ _ _ _ _ => (pe_dget (hu_of hr) (pv 6) (pv 15) (fun _ _ => rfl)))) pa_nil)) pa_nil)))))))
      (pss_cons (ps_if (pt_not (pt_val (pe_c c_law_same (hr.mono (by first | decide | omega)) pass0 (pa_cons (pe_lst (pa_cons (pe_ck c_work_in_k (hr.mono (by first | decide | omega)) passN (pk_cons (pv 3) pk_nil)) (pa_cons (pe_ck c_span_k (hr.mono (by first | decide | omega)) passN (pk_cons (pv 3) pk_nil)) (pa_cons (pe_ck c_width_k (hr.mono (by first | decide | omega)) passN (pk_cons (pv 3) pk_nil)) (pa_cons (pe_ck c_heights_k (hr.mono (by first | decide | omega)) passN (pk_cons (pv 3) pk_nil)) (pa_cons (pe_ck c_levels_k (hr.mono (by first | decide | omega)) passN (pk_cons (pv 3) pk_nil)) pa_nil)))))) (pa_cons (pv 7) pa_nil))))) (pss_one (ps_ret pe_bl)) pss_nil)
      (pss_cons (ps_if (PW.pt (pw_or (PW.pt (pw_and (pt_cmpR op_lt (pe_callB cr_lenD0 (by rfl) T.z_len (by decide +kernel) (pa_cons (pv 4) pa_nil)) pe_int (nomark _)) (pw_and1 (pt_cmpR op_ne (pe_c c_law_widest (hr.mono (by first | decide | omega)) pass0 (pa_cons (pv 4) pa_nil)) (pe_ix ix_list (pv 7) pe_int (fun _ _ => rfl)) (nomark _))))) (pw_or (pt_cmpR op_notBl (pe_ck c_is_lot_k (hr.mono (by first | decide | omega)) pass0 (pk_cons (pv 3) pk_nil)) pe_bl (nomark _)) (pw_or1 (pt_cmpR op_gt (pe_ix ix_list (pv 7) pe_int (fun _ _ => rfl)) (pe_op op_mul (pe_ix ix_list (pv 7) pe_int (fun _ _ => rfl)) (pe_ix ix_list (pv 7) pe_int (fun _ _ => rfl))) (nomark _)))))) (pss_one (ps_ret pe_bl)) pss_nil)
      (pss_cons (ps_set (i := 8) (sc_law).nd rfl (by first | exact Or.inl rfl | exact Or.inr rfl) (pe_c c_law_some_lot (hr.mono (by first | decide | omega)) pass0 (pa_cons (pv 1) (pa_cons pe_int pa_nil))))
      (pss_cons (ps_par (i := 9) (j := 10) (by rfl) (sc_law).nd rfl rfl (by decide) rfl rfl (pa_cons (pe_tup (pa_cons pe_str (pa_cons (pv 3) (pa_cons (pv 8) pa_nil)))) (pa_cons (pe_tup (pa_cons pe_str (pa_cons (pe_tup (pa_cons (pv 3) (pa_cons (pv 8) pa_nil))) pa_nil))) pa_nil)) (by rfl))
      (pss_cons (ps_set (i := 11) (sc_law).nd rfl (by first | exact Or.inl rfl | exact Or.inr rfl) (pe_lst (pa_cons (pe_c c_work_in (hr.mono (by first | decide | omega)) passN (pa_cons (pv 9) pa_nil)) (pa_cons (pe_c c_width (hr.mono (by first | decide | omega)) passN (pa_cons (pv 9) pa_nil)) (pa_cons (pe_c c_span (hr.mono (by first | decide | omega)) passN (pa_cons (pv 9) pa_nil)) (pa_cons (pe_c c_work_in (hr.mono (by first | decide | omega)) passN (pa_cons (pv 10) pa_nil)) (pa_cons (pe_c c_width (hr.mono (by first | decide | omega)) passN (pa_cons (pv 10) pa_nil)) (pa_cons (pe_c c_span (hr.mono (by first | decide | omega)) passN (pa_cons (pv 10) pa_nil)) pa_nil))))))))
      (pss_one (ps_if (pt_not (pt_val (pe_c c_law_same (hr.mono (by first | decide | omega)) pass0 (pa_cons (pv 11) (pa_cons (pe_lst (pa_cons (pe_op op_add (pe_ix ix_list (pv 7) pe_int (fun _ _ => rfl)) (pe_c c_work_in (hr.mono (by first | decide | omega)) passN (pa_cons (pv 8) pa_nil))) (pa_cons (pe_op op_add (pe_ix ix_list (pv 7) pe_int (fun _ _ => rfl)) (pe_c c_width (hr.mono (by first | decide | omega)) passN (pa_cons (pv 8) pa_nil))) (pa_cons (pe_callB (call_max2 rfl) (by rfl) T.z_max (by decide +kernel) (pa_cons (pe_ix ix_list (pv 7) pe_int (fun _ _ => rfl)) (pa_cons (pe_c c_span (hr.mono (by first | decide | omega)) passN (pa_cons (pv 8) pa_nil)) pa_nil))) (pa_cons (pe_op op_add (pe_ix ix_list (pv 7) pe_int (fun _ _ => rfl)) (pe_c c_work_in (hr.mono (by first | decide | omega)) passN (pa_cons (pv 8) pa_nil))) (pa_cons (pe_callB (call_max2 rfl) (by rfl) T.z_max (by decide +kernel) (pa_cons (pe_ix ix_list (pv 7) pe_int (fun _ _ => rfl)) (pa_cons (pe_c c_width (hr.mono (by first | decide | omega)) passN (pa_cons (pv 8) pa_nil)) pa_nil))) (pa_cons (pe_op op_add (pe_ix ix_list (pv 7) pe_int (fun _ _ => rfl)) (pe_c c_span (hr.mono (by first | decide | omega)) passN (pa_cons (pv 8) pa_nil))) pa_nil))))))) pa_nil))))) (pss_one (ps_ret pe_bl)) pss_nil))))))))))))
      (pss_cons (ps_asg (pe_c c_law_many_lot (hr.mono (by first | decide | omega)) pass0 (pa_cons (pv 1) pa_nil)) (pg_tup rfl (pgs_cons (pg_name (i := 3) (sc_law).nd rfl (by first | exact Or.inl rfl | exact Or.inr rfl)) (pgs_cons (pg_name (i := 12) (sc_law).nd rfl (by first | exact Or.inl rfl | exact Or.inr rfl)) pgs_nil))))
      (pss_cons (ps_if (pt_not (pt_val (pe_c c_law_same (hr.mono (by first | decide | omega)) pass0 (pa_cons (pe_c c_is_lot (hr.mono (by first | decide | omega)) pass0 (pa_cons (pv 3) pa_nil)) (pa_cons (pv 12) pa_nil))))) (pss_one (ps_ret pe_bl)) pss_nil)
      (pss_cons (ps_if (PW.pt (pw_and (pt_val (pv 12)) (pw_and1 (pt_not (pt_val (pe_c c_law_same (hr.mono (by first | decide | omega)) pass0 (pa_cons (pe_lst (pa_cons (pe_c c_work_in (hr.mono (by first | decide | omega)) passN (pa_cons (pv 3) pa_nil)) (pa_cons (pe_c c_width (hr.mono (by first | decide | omega)) passN (pa_cons (pv 3) pa_nil)) pa_nil))) (pa_cons (pe_lst (pa_cons (pe_c c_law_steps (hr.mono (by first | decide | omega)) pass0 (pa_cons (pv 3) pa_nil)) (pa_cons (pe_c c_law_cut_width (hr.mono (by first | decide | omega)) pass0 (pa_cons (pv 3) pa_nil)) pa_nil))) pa_nil)))))))) (pss_one (ps_ret pe_bl)) pss_nil)
      (pss_cons (ps_set (i := 13) (sc_law).nd rfl (by first | exact Or.inl rfl | exact Or.inr rfl) (pe_c c_law_of (hr.mono (by first | decide | omega)) pass0 (pa_cons (pv 1) (pa_cons (pe_lst (pa_cons pe_non (pa_cons pe_int (pa_cons (pe_tup pa_nil) (pa_cons (pe_tup (pa_cons pe_str (pa_cons pe_int pa_nil))) (pa_cons (pe_tup (pa_cons pe_str pa_nil)) (pa_cons (pe_lst (pa_cons pe_str pa_nil)) (pa_cons (pe_tup (pa_cons pe_str pa_nil)) (pa_cons (pe_tup (pa_cons pe_str (pa_cons (pe_lst (pa_cons (pe_tup (pa_cons pe_str pa_nil)) pa_nil)) pa_nil))) (pa_cons (pe_tup (pa_cons pe_str (pa_cons (pe_tup (pa_cons (pe_tup (pa_cons pe_str pa_nil)) pa_nil)) (pa_cons pe_int pa_nil)))) (pa_cons (pe_tup (pa_cons pe_str (pa_cons (pe_tup (pa_cons (pe_tup (pa_cons pe_str pa_nil)) (pa_cons pe_non pa_nil))) pa_nil))) (pa_cons (pe_tup (pa_cons pe_str (pa_cons (pe_tup (pa_cons pe_str pa_nil)) pa_nil))) pa_nil)))))))))))) pa_nil))))
      (pss_cons (ps_set (i := 13) (sc_law).nd rfl (by first | exact Or.inl rfl | exact Or.inr rfl) (pe_c c_law_of (hr.mono (by first | decide | omega)) pass0 (pa_cons (pv 1) (pa_cons (pe_op op_cat (pe_lst (pa_cons (pv 13) (pa_cons (pv 13) (pa_cons (pe_tup (pa_cons pe_str (pa_cons (pe_tup (pa_cons pe_str pa_nil)) (pa_cons (pe_tup (pa_cons pe_str pa_nil)) (pa_cons (pe_tup (pa_cons pe_str pa_nil)) pa_nil))))) (pa_cons (pe_tup (pa_cons pe_str (pa_cons (pe_tup (pa_cons pe_str pa_nil)) (pa_cons (pe_tup pa_nil) pa_nil)))) (pa_cons pe_str (pa_cons (pe_tup (pa_cons (pe_tup (pa_cons pe_str pa_nil)) pa_nil)) (pa_cons (pe_tup (pa_cons pe_str (pa_cons (pe_tup (pa_cons pe_str pa_nil)) pa_nil))) (pa_cons pe_dnewK (pa_cons pe_bl pa_nil)))))))))) (pe_ifExp (pt_val (pv 12)) (pe_lst pa_nil) (pe_lst (pa_cons (pv 3) pa_nil)))) pa_nil))))
      (pss_cons (ps_setLc (i := 14) (own := [("work_of", 16)]) (g := (gName 16)) (te := (teLam w K mg base P)) (tt := tYes) (by rfl) (sc_law).nd rfl rfl (sw_true rfl rfl rfl (by decide +kernel)) (pi_list (pe_lst (pa_cons (pe_glob (v := .ref (He.ga K "work_in")) rfl T.g_work_in rfl) (pa_cons (pe_glob (v := .ref (He.ga K "span")) rfl T.g_span rfl) (pa_cons (pe_glob (v := .ref (He.ga K "width")) rfl T.g_width rfl) (pa_cons (pe_glob (v := .ref (He.ga K "heights")) rfl T.g_heights rfl) (pa_cons (pe_glob (v := .ref (He.ga K "levels")) rfl T.g_levels rfl) pa_nil))))))) (blkOk_by (own := [("work_of", 16)]) (N := nm_law) (sc := sp_law) (by decide +kernel)) (fun _ _ _ _ _ => (pg_name (i := 16) (sc_law).nd rfl (by first | exact Or.inl rfl | exact Or.inr rfl))) (fun _ _ _ _ _ => pts_nil) (fun _ _ _ _ _ => (lam_elt T TB hr (by decide) _ _ _ _ _)))
      (pss_one (ps_ret (pe_and (pe_cmpR op_isBl (pe_c c_is_lot (hr.mono (by first | decide | omega)) pass0 (pa_cons (pv 13) pa_nil)) pe_bl (nomark _)) (pe_one (pe_c c_law_same (hr.mono (by first | decide | omega)) pass0 (pa_cons (pv 14) (pa_cons (pe_op op_rep (pe_lst (pa_cons (pe_tup (pa_cons pe_str (pa_cons pe_int pa_nil))) pa_nil)) pe_int) pa_nil))))))))))))))), ?_⟩
  have v15 : (15 : Nat) = 15 := rfl
  -- deal = _law_draw(script, 55)
  refine ⟨_, rfl, a, ns, 55, rfl, by decide, ha, fun H1 d l e1 hD1 nd nl => ?_⟩
  have hP1 := e1 _ _ hP (by simp)
  have nPd : P ≠ d := ne_of_none hP nd
  have nPl : P ≠ l := ne_of_none hP nl
  refine ⟨_, rfl, by decide, by decide, ?_⟩
  refine for_it walk_range (fun i σ H2 => (∃ x2 x3 x4 x5 x6 x7 x8 x9 x10 x11, σ = [some (.ref a), some (.ref d), x2, x3, x4, x5, x6, x7, x8, x9, x10, x11, none, none, none, none, none]) ∧ DealAt H2 d l ∧ Eff [d, l] H1 H2) ⟨⟨_, _, _, _, _, _, _, _, _, _, rfl⟩, hD1, Eff.refl⟩ (fun _ _ _ _ _ => trivial) ?_ ?_
  · rintro i x σ H2 H2' hi ⟨⟨x2, x3, x4, x5, x6, x7, x8, x9, x10, x11, rfl⟩, hD2, e2⟩ ⟨rfl, rfl⟩
    refine ⟨_, rfl, _, _, rfl, rfl, _, rfl, few_if rfl hD2 fun H3 v lot e3 hD3 hl d5 n6 s1 => ?_⟩
    have okl : isLotD lot.data = true := (isLot_iff lot).mpr ⟨by omega, by omega, by omega⟩
    -- ahead
    refine ⟨_, rfl, v, lot, 0, rfl, hl, d5, by omega, fun H4 ah bs e4 hah lbs hAL nah => ?_⟩
    have hA4 : AhAt H4 ah bs lot := ⟨hah, lbs, hAL⟩
    -- high, low
    refine ⟨_, rfl, ah, bs, lot, rfl, hA4, by omega, fun H5 hi5 e5 hhi nhi => ⟨_, rfl, ah, bs, lot, rfl, hA4.eff e5, by omega, fun H6 lo e6 hlo nlo => ⟨small (by simp), fun t nt => ?_⟩⟩⟩
    have et : Eff [] H6 (upd H6 t (.tup [.ref hi5, .ref lo])) := Eff.refl.put nt
    refine ⟨t, [.ref hi5, .ref lo], rfl, SqT.of upd_same, rfl, _, _, rfl, _, _, rfl, rfl, ?_⟩
    have e37 : Eff [] H3 (upd H6 t (.tup [.ref hi5, .ref lo])) := ((e4.trans e5).trans e6).trans et
    have e67 := e6.trans et
    have hhi7 := e67 _ _ hhi (by simp)
    have hlo7 := et _ _ hlo (by simp)
    have hA7 := (hA4.eff e5).eff e67
    generalize (upd H6 t (.tup [.ref hi5, .ref lo])) = H7 at *
    have hl7 := hl.same e37
    -- due
    refine ⟨_, rfl, ah, _, rfl, hA7.top, max_low (by omega) rfl hlo7 fun H8 e8 => ?_⟩
    refine ⟨_, rfl, v, lot, rfl, hl7.same e8, by omega, by omega, fun H9 e9 => ?_⟩
    have e79 := e8.trans e9
    refine tup_keys (hA7.eff e79) (by omega) rfl rfl (e79 _ _ hhi7 (by simp)) (fun j hj => (downK_mem (Nat.le_refl _)).mpr ⟨by omega, hj⟩) fun H10 th e10 hth => ?_
    have e7a := e79.trans e10
    refine tup_keys (hA7.eff e7a) (by omega) rfl rfl (e7a _ _ hlo7 (by simp)) (fun j hj => List.mem_range.mpr hj) fun H11 tl e11 htl => ⟨small (by simp), fun du ndu => ?_⟩
    have eln : (ahK 0 (bs.map V.ref)).length = lot.steps := by rw [ahK_len, List.length_map]; exact hA7.len
    rw [eln]
    have edu : Eff [] H11 (upd H11 du (.lst [.int (lot.steps : Nat), .int (lot.span : Nat), .int (lot.width : Nat), .ref th, .ref tl])) := Eff.refl.put ndu
    have hdu : (upd H11 du (.lst [.int (lot.steps : Nat), .int (lot.span : Nat), .int (lot.width : Nat), .ref th, .ref tl])) du = some (.lst [.int (lot.steps : Nat), .int (lot.span : Nat), .int (lot.width : Nat), .ref th, .ref tl]) := upd_same
    generalize (upd H11 du (.lst [.int (lot.steps : Nat), .int (lot.span : Nat), .int (lot.width : Nat), .ref th, .ref tl])) = H12 at *
    have e7c : Eff [] H7 H12 := (e7a.trans e11).trans edu
    have hl12 := hl7.same e7c
    have hth12 := (e11.trans edu).seqT0 hth
    have htl12 := edu.seqT0 htl
    have hA12 := hA7.eff e7c
    have hD12 : DealAt H12 d l := hD3.eff (e37.trans e7c)
    have e1c : Eff [d, l] H1 H12 := (e2.trans e3).trans (e37.trans e7c).nil
    clear e37 e7c e7a e79 e8 e9 e10 e11 edu hl7 hth htl hA7 hA4 e4 e5 e6 et e67
    -- if not _law_same([work_in(lot=lot), ..], due)
    refine ⟨_, rfl, rfl, v, rfl, .inl ⟨lot, hl12, okl, fun H13 e13 => ?_⟩⟩
    refine ⟨_, rfl, rfl, v, rfl, .inl ⟨lot, hl12.same e13, okl, fun H14 e14 => ?_⟩⟩
    have e24 := e13.trans e14
    refine ⟨_, rfl, rfl, v, rfl, .inl ⟨lot, hl12.same e24, okl, fun H15 e15 => ?_⟩⟩
    have e25 := e24.trans e15
    refine ⟨_, rfl, rfl, v, rfl, .inl ⟨lot, hl12.same e25, okl, fun H16 ch e16 hch => ?_⟩⟩
    have e26 := e25.trans e16
    refine ⟨_, rfl, rfl, v, rfl, .inl ⟨lot, hl12.same e26, okl, fun H17 cv e17 hcv => ⟨small (by simp), fun L nL => ?_⟩⟩⟩
    have eL : Eff [] H17 (upd H17 L (.lst [.int (lot.steps : Nat), .int (lot.span : Nat), .int (lot.width : Nat), .ref ch, .ref cv])) := Eff.refl.put nL
    have hL : (upd H17 L (.lst [.int (lot.steps : Nat), .int (lot.span : Nat), .int (lot.width : Nat), .ref ch, .ref cv])) L = some (.lst [.int (lot.steps : Nat), .int (lot.span : Nat), .int (lot.width : Nat), .ref ch, .ref cv]) := upd_same
    generalize (upd H17 L (.lst [.int (lot.steps : Nat), .int (lot.span : Nat), .int (lot.width : Nat), .ref ch, .ref cv])) = H18 at *
    have e28 := (e26.trans e17).trans eL
    have hdu18 := e28 _ _ hdu (by simp)
    refine ⟨_, rfl, .ref L, .ref du, .list [.int (lot.steps : Nat), .int (lot.span : Nat), .int (lot.width : Nat), natsD (heis lot), natsD (levs lot)], rfl, ?_, ?_, ?_, fun H19 e19 => ⟨_, rfl, iteF ?_⟩⟩
    · intro x hx
      simp only [List.mem_cons, List.not_mem_nil, or_false] at hx
      rcases hx with rfl | rfl | rfl | rfl | rfl
      · exact trivial
      · exact trivial
      · exact trivial
      · exact ok_nats 0 _
      · exact ok_nats 0 _
    · exact ⟨L, _, rfl, hL, by simp, _, _, rfl, rfl, _, _, rfl, rfl, _, _, rfl, rfl, _, _, rfl, at_nats ((e17.trans eL).seqT0 hch), _, _, rfl, at_nats (eL.seqT0 hcv), rfl⟩
    · exact ⟨du, _, rfl, hdu18, by simp, _, _, rfl, rfl, _, _, rfl, rfl, _, _, rfl, rfl, _, _, rfl, at_nats (e28.seqT0 hth12), _, _, rfl, at_nats (e28.seqT0 htl12), rfl⟩
    have e29 := e28.trans e19
    have hdu19 := e29 _ _ hdu (by simp)
    -- len(ahead) < 12 and .. or is_lot(value=lot) is not True or due[0] > due[1] * due[2]
    refine cond_widest rfl rfl (hA12.eff e29) hdu19 fun H20 e20 => iteF ?_
    have e210 := e29.trans e20
    have zl := size_lot lot
    refine ⟨_, rfl, rfl, [], v, lot.data, rfl, hl12.same e210, by omega, fun H21 e21 => ⟨_, true, rfl, rfl, _, rfl, ite2 (fun z => absurd z (by rw [okl]; simp)) fun _ => ?_⟩⟩
    have e211 := e210.trans e21
    have hdu21 : SqL K H21 du _ := .inl (.inl (e211 _ _ hdu (by simp)))
    have sle := span_le lot
    have wle := width_le lot
    have hsw := steps_span_width lot
    refine ⟨_, rfl, du, _, 0, _, rfl, rfl, hdu21, atI_nat (j := 0) rfl, _, rfl, du, _, 1, _, rfl, rfl, hdu21, atI_nat (j := 1) rfl, _, rfl, du, _, 2, _, rfl, rfl, hdu21, atI_nat (j := 2) rfl, _, _, rfl, rfl, .inl ⟨Int.lt_of_lt_of_le (by decide) (Int.natCast_nonneg _), Int.lt_of_le_of_lt (show (lot.span : Int) ≤ 120 by omega) (by decide)⟩, _, _, rfl, rfl, _, rfl, ite2 (fun z => ?_) fun _ => ?_⟩
    · have z : ((lot.span : Nat) : Int) * (lot.width : Nat) < (lot.steps : Nat) := of_decide_eq_true z
      rw [← Int.natCast_mul] at z
      omega
    have hl21 := hl12.same e211
    have hD21 := hD12.eff e211
    have hdu21' := e211 _ _ hdu (by simp)
    have e1d : Eff [d, l] H1 H21 := e1c.trans e211.nil
    clear e1c e211 e210 e29 e28 e26 e25 e24 hl12 hD12 hA12 hdu19 hdu18 hdu hth12 htl12 hL hdu21
    -- more = _law_some_lot(deal, 3)
    refine ⟨_, rfl, d, l, 3, rfl, by decide, hD21, fun H22 vm more e22 hD22 hm dm nm => ?_⟩
    have nm : more.nodes ≤ 125 := nm
    have stl := steps_nodes more
    have hl22 := hl21.keep e22 hD21.lists
    have ndu' : du ∉ [d, l] := by
      obtain ⟨cs, b, k1, k2, _⟩ := hD21
      intro z
      rcases List.mem_cons.mp z with z | z
      · rw [z, k1] at hdu21'
        have := HO.lst.inj (Option.some.inj hdu21')
        simp at this
      · rw [List.mem_singleton.mp z, k2] at hdu21'
        have := HO.lst.inj (Option.some.inj hdu21')
        have q5 := congrArg (fun z : List V => z[3]?) this
        simp only [List.getElem?_map] at q5
        cases q6 : cs[3]? <;> rw [q6] at q5 <;> cases q5
    have hdu22 := e22 _ _ hdu21' ndu'
    -- both, row
    refine ⟨_, rfl, _, rfl, small (by simp), fun tb ntb => ?_⟩
    have eb1 : Eff [] H22 (upd H22 tb (.tup [.str "both", v, vm])) := Eff.refl.put ntb
    have hb1 : (upd H22 tb (.tup [.str "both", v, vm])) tb = some (.tup [.str "both", v, vm]) := upd_same
    generalize (upd H22 tb (.tup [.str "both", v, vm])) = H23 at *
    refine ⟨_, rfl, _, rfl, small (by simp), fun t1 nt1 => ?_⟩
    have eb2 : Eff [] H23 (upd H23 t1 (.tup [v, vm])) := Eff.refl.put nt1
    have hb2 : (upd H23 t1 (.tup [v, vm])) t1 = some (.tup [v, vm]) := upd_same
    generalize (upd H23 t1 (.tup [v, vm])) = H24 at *
    refine ⟨small (by simp), fun tr ntr => ?_⟩
    have eb3 : Eff [] H24 (upd H24 tr (.tup [.str "row", .ref t1])) := Eff.refl.put ntr
    have hb3 : (upd H24 tr (.tup [.str "row", .ref t1])) tr = some (.tup [.str "row", .ref t1]) := upd_same
    generalize (upd H24 tr (.tup [.str "row", .ref t1])) = H25 at *
    refine ⟨_, _, rfl, ?_⟩
    have e25 := (eb1.trans eb2).trans eb3
    have lb : LotAt K H25 (.both lot more) (.ref tb) := lot_both ((eb2.trans eb3).seqT0 (SqT.of hb1)) (hl22.same e25) (hm.same e25)
    have lr : LotAt K H25 (.row [lot, more]) (.ref tr) := lot_row (SqT.of hb3) (eb3.seqT0 (SqT.of hb2)) (lots_cons (hl22.same e25) (lots_cons (hm.same e25) lots_nil))
    have lm := hm.same e25
    have hdu25 := e25 _ _ hdu22 (by simp)
    have hD25 := hD22.eff e25
    have e1e : Eff [d, l] H1 H25 := (e1d.trans e22).trans e25.nil
    have okb : isLotD (Lot.both lot more).data = true := (isLot_iff _).mpr ⟨by simp only [Lot.nodes]; omega, by simp only [Lot.depth]; omega, by simp only [Lot.steps]; omega⟩
    have okr : isLotD (Lot.row [lot, more]).data = true := (isLot_iff _).mpr ⟨by simp only [Lot.nodes, Lot.nodesL]; omega, by simp only [Lot.depth, Lot.depthL]; omega, by simp only [Lot.steps, Lot.stepsL]; omega⟩
    have okm : isLotD more.data = true := (isLot_iff _).mpr ⟨by omega, by omega, by omega⟩
    clear e25 eb1 eb2 eb3 hb1 hb2 hb3 hl21 hl22 hD21 hD22 hm hdu21' hdu22 e1d e22
    -- told
    refine ⟨_, rfl, .ref tb, rfl, .inl ⟨_, lb, okb, fun H26 e26 => ?_⟩⟩
    refine ⟨_, rfl, .ref tb, rfl, .inl ⟨_, lb.same e26, okb, fun H27 e27 => ?_⟩⟩
    have e57 := e26.trans e27
    refine ⟨_, rfl, .ref tb, rfl, .inl ⟨_, lb.same e57, okb, fun H28 e28 => ?_⟩⟩
    have e58 := e57.trans e28
    refine ⟨_, rfl, .ref tr, rfl, .inl ⟨_, lr.same e58, okr, fun H29 e29 => ?_⟩⟩
    have e59 := e58.trans e29
    refine ⟨_, rfl, .ref tr, rfl, .inl ⟨_, lr.same e59, okr, fun H30 e30 => ?_⟩⟩
    have e60 := e59.trans e30
    refine ⟨_, rfl, .ref tr, rfl, .inl ⟨_, lr.same e60, okr, fun H31 e31 => ⟨small (by simp), fun tl2 ntl2 => ?_⟩⟩⟩
    have et2 : Eff [] H31 (upd H31 tl2 (.lst [.int ((Lot.both lot more).steps : Nat), .int ((Lot.both lot more).width : Nat), .int ((Lot.both lot more).span : Nat), .int ((Lot.row [lot, more]).steps : Nat), .int ((Lot.row [lot, more]).width : Nat), .int ((Lot.row [lot, more]).span : Nat)])) := Eff.refl.put ntl2
    have ht2 : (upd H31 tl2 (.lst [.int ((Lot.both lot more).steps : Nat), .int ((Lot.both lot more).width : Nat), .int ((Lot.both lot more).span : Nat), .int ((Lot.row [lot, more]).steps : Nat), .int ((Lot.row [lot, more]).width : Nat), .int ((Lot.row [lot, more]).span : Nat)])) tl2 = some (.lst [.int ((Lot.both lot more).steps : Nat), .int ((Lot.both lot more).width : Nat), .int ((Lot.both lot more).span : Nat), .int ((Lot.row [lot, more]).steps : Nat), .int ((Lot.row [lot, more]).width : Nat), .int ((Lot.row [lot, more]).span : Nat)]) := upd_same
    generalize (upd H31 tl2 (.lst [.int ((Lot.both lot more).steps : Nat), .int ((Lot.both lot more).width : Nat), .int ((Lot.both lot more).span : Nat), .int ((Lot.row [lot, more]).steps : Nat), .int ((Lot.row [lot, more]).width : Nat), .int ((Lot.row [lot, more]).span : Nat)])) = H32 at *
    have e62 := (e60.trans e31).trans et2
    have hdu32 := e62 _ _ hdu25 (by simp)
    have lm32 := lm.same e62
    have hD32 := hD25.eff e62
    have e1f : Eff [d, l] H1 H32 := e1e.trans e62.nil
    clear e62 e60 e59 e58 e57 lb lr lm hD25 hdu25 e1e
    -- if not _law_same(told, [..])
    refine ⟨_, rfl, _, rfl, du, _, 0, _, rfl, rfl, .inl (.inl hdu32), atI_nat (j := 0) rfl, _, rfl, vm, rfl, .inl ⟨_, lm32, okm, fun H33 f1 => ⟨_, _, rfl, rfl, ?_⟩⟩⟩
    refine ⟨_, rfl, du, _, 2, _, rfl, rfl, .inl (.inl (f1 _ _ hdu32 (by simp))), atI_nat (j := 2) rfl, _, rfl, vm, rfl, .inl ⟨_, lm32.same f1, okm, fun H34 f2 => ⟨_, _, rfl, rfl, ?_⟩⟩⟩
    have g2 := f1.trans f2
    refine ⟨_, rfl, du, _, 1, _, rfl, rfl, .inl (.inl (g2 _ _ hdu32 (by simp))), atI_nat (j := 1) rfl, _, rfl, vm, rfl, .inl ⟨_, lm32.same g2, okm, fun H35 f3 => ⟨_, _, rfl, ?_⟩⟩⟩
    have g3 := g2.trans f3
    refine ⟨_, rfl, du, _, 0, _, rfl, rfl, .inl (.inl (g3 _ _ hdu32 (by simp))), atI_nat (j := 0) rfl, _, rfl, vm, rfl, .inl ⟨_, lm32.same g3, okm, fun H36 f4 => ⟨_, _, rfl, rfl, ?_⟩⟩⟩
    have g4 := g3.trans f4
    refine ⟨_, rfl, du, _, 2, _, rfl, rfl, .inl (.inl (g4 _ _ hdu32 (by simp))), atI_nat (j := 2) rfl, _, rfl, vm, rfl, .inl ⟨_, lm32.same g4, okm, fun H37 f5 => ⟨_, _, rfl, ?_⟩⟩⟩
    have g5 := g4.trans f5
    refine ⟨_, rfl, du, _, 1, _, rfl, rfl, .inl (.inl (g5 _ _ hdu32 (by simp))), atI_nat (j := 1) rfl, _, rfl, vm, rfl, .inl ⟨_, lm32.same g5, okm, fun H38 f6 => ⟨_, _, rfl, rfl, ⟨small (by simp), fun t6 nt6 => ?_⟩⟩⟩⟩
    have g6 := g5.trans f6
    have q3 : (if ((more.span : Nat) : Int) > (lot.span : Nat) then ((more.span : Nat) : Int) else (lot.span : Nat)) = ((Lot.both lot more).span : Nat) := by
      simp only [Lot.span]
      split <;> omega
    have q5 : (if ((more.width : Nat) : Int) > (lot.width : Nat) then ((more.width : Nat) : Int) else (lot.width : Nat)) = ((Lot.row [lot, more]).width : Nat) := by
      simp only [Lot.width, Lot.widthL]
      split <;> omega
    have q1 : ((lot.steps : Nat) : Int) + (more.steps : Nat) = ((Lot.both lot more).steps : Nat) := by
      simp only [Lot.steps]
      omega
    have q2 : ((lot.width : Nat) : Int) + (more.width : Nat) = ((Lot.both lot more).width : Nat) := by
      simp only [Lot.width]
      omega
    have q4 : ((lot.steps : Nat) : Int) + (more.steps : Nat) = ((Lot.row [lot, more]).steps : Nat) := by
      simp only [Lot.steps, Lot.stepsL]
      omega
    have q6 : ((lot.span : Nat) : Int) + (more.span : Nat) = ((Lot.row [lot, more]).span : Nat) := by
      simp only [Lot.span, Lot.spanL]
      omega
    refine ⟨.ref tl2, .ref t6, .list [.int ((Lot.both lot more).steps : Nat), .int ((Lot.both lot more).width : Nat), .int ((Lot.both lot more).span : Nat), .int ((Lot.row [lot, more]).steps : Nat), .int ((Lot.row [lot, more]).width : Nat), .int ((Lot.row [lot, more]).span : Nat)], rfl, ?_, ?_, ?_, fun H40 f7 => ⟨_, rfl, iteF ?_⟩⟩
    · intro x hx
      simp only [List.mem_cons, List.not_mem_nil, or_false] at hx
      rcases hx with rfl | rfl | rfl | rfl | rfl | rfl <;> exact trivial
    · refine ⟨tl2, _, rfl, (g6.put (g6.free nt6 (by simp))) _ _ ht2 (by simp), by simp, _, _, rfl, rfl, _, _, rfl, rfl, _, _, rfl, rfl, _, _, rfl, rfl, _, _, rfl, rfl, _, _, rfl, rfl, rfl⟩
    · exact ⟨t6, _, rfl, upd_same, by simp, _, _, rfl, congrArg V.int q1, _, _, rfl, congrArg V.int q2, _, _, rfl, congrArg V.int q3, _, _, rfl, congrArg V.int q4, _, _, rfl, congrArg V.int q5, _, _, rfl, congrArg V.int q6, rfl⟩
    have g7 := (g6.put (g6.free nt6 (by simp))).trans f7
    exact ⟨⟨_, _, _, _, _, _, _, _, _, _, rfl⟩, hD32.eff g7, e1f.trans g7.nil⟩
  · rintro σ H2 ⟨⟨x2, x3, x4, x5, x6, x7, x8, x9, x10, x11, rfl⟩, hD2, e2⟩
    -- lot, right = _law_many_lot(deal)
    refine ⟨_, rfl, d, l, rfl, hD2, fun H3 t v lot e3 hD3 ht hl n5 d61 => ⟨t, _, rfl, ht, rfl, _, _, rfl, _, _, rfl, rfl, ?_⟩⟩
    have zl := size_lot lot
    -- if not _law_same(is_lot(lot), right)
    refine ⟨_, rfl, [], v, lot.data, rfl, hl, by omega, fun H4 e4 => ⟨_, rfl, _, _, .bool (isLotD lot.data), rfl, trivial, rfl, rfl, fun H5 e5 => ⟨_, rfl, iteF ?_⟩⟩⟩
    have e35 := e4.trans e5
    -- if right and ..
    refine cond_right rfl rfl (hl.same e35) n5 d61 fun H6 e6 => iteF ?_
    have e36 := e35.trans e6
    have hl6 := hl.same e36
    have hD6 := hD3.eff e36
    have eM : Eff [d, l] H1 H6 := (e2.trans e3).trans e36.nil
    clear e36 e35 e4 e5 e6 hl hD3 hD2 ht e3 e2
    -- near = _law_of(deal, [..])
    refine ⟨_, rfl, ?_⟩
    refine ⟨small (by simp), fun t1 n1 => ?_⟩
    have e1 : Eff [] H6 (upd H6 t1 (.tup [])) := Eff.refl.put n1
    have h1 : (upd H6 t1 (.tup [])) t1 = some (.tup []) := upd_same
    generalize (upd H6 t1 (.tup [])) = A1 at *
    refine ⟨small (by simp), fun t2 n2 => ?_⟩
    have e2 : Eff [] A1 (upd A1 t2 (.tup [.str "step", .int 1])) := Eff.refl.put n2
    have h2 : (upd A1 t2 (.tup [.str "step", .int 1])) t2 = some (.tup [.str "step", .int 1]) := upd_same
    generalize (upd A1 t2 (.tup [.str "step", .int 1])) = A2 at *
    refine ⟨small (by simp), fun t3 n3 => ?_⟩
    have e3 : Eff [] A2 (upd A2 t3 (.tup [.str "steps"])) := Eff.refl.put n3
    have h3 : (upd A2 t3 (.tup [.str "steps"])) t3 = some (.tup [.str "steps"]) := upd_same
    generalize (upd A2 t3 (.tup [.str "steps"])) = A3 at *
    refine ⟨small (by simp), fun t4 n4 => ?_⟩
    have e4 : Eff [] A3 (upd A3 t4 (.lst [.str "step"])) := Eff.refl.put n4
    have h4 : (upd A3 t4 (.lst [.str "step"])) t4 = some (.lst [.str "step"]) := upd_same
    generalize (upd A3 t4 (.lst [.str "step"])) = A4 at *
    refine ⟨small (by simp), fun t5 n5 => ?_⟩
    have e5 : Eff [] A4 (upd A4 t5 (.tup [.str "row"])) := Eff.refl.put n5
    have h5 : (upd A4 t5 (.tup [.str "row"])) t5 = some (.tup [.str "row"]) := upd_same
    generalize (upd A4 t5 (.tup [.str "row"])) = A5 at *
    refine ⟨small (by simp), fun t6 n6 => ?_⟩
    have e6 : Eff [] A5 (upd A5 t6 (.tup [.str "step"])) := Eff.refl.put n6
    have h6 : (upd A5 t6 (.tup [.str "step"])) t6 = some (.tup [.str "step"]) := upd_same
    generalize (upd A5 t6 (.tup [.str "step"])) = A6 at *
    refine ⟨small (by simp), fun t7 n7 => ?_⟩
    have e7 : Eff [] A6 (upd A6 t7 (.lst [.ref t6])) := Eff.refl.put n7
    have h7 : (upd A6 t7 (.lst [.ref t6])) t7 = some (.lst [.ref t6]) := upd_same
    generalize (upd A6 t7 (.lst [.ref t6])) = A7 at *
    refine ⟨small (by simp), fun t8 n8 => ?_⟩
    have e8 : Eff [] A7 (upd A7 t8 (.tup [.str "row", .ref t7])) := Eff.refl.put n8
    have h8 : (upd A7 t8 (.tup [.str "row", .ref t7])) t8 = some (.tup [.str "row", .ref t7]) := upd_same
    generalize (upd A7 t8 (.tup [.str "row", .ref t7])) = A8 at *
    refine ⟨small (by simp), fun t9 n9 => ?_⟩
    have e9 : Eff [] A8 (upd A8 t9 (.tup [.str "step"])) := Eff.refl.put n9
    have h9 : (upd A8 t9 (.tup [.str "step"])) t9 = some (.tup [.str "step"]) := upd_same
    generalize (upd A8 t9 (.tup [.str "step"])) = A9 at *
    refine ⟨small (by simp), fun t10 n10 => ?_⟩
    have e10 : Eff [] A9 (upd A9 t10 (.tup [.ref t9])) := Eff.refl.put n10
    have h10 : (upd A9 t10 (.tup [.ref t9])) t10 = some (.tup [.ref t9]) := upd_same
    generalize (upd A9 t10 (.tup [.ref t9])) = A10 at *
    refine ⟨small (by simp), fun t11 n11 => ?_⟩
    have e11 : Eff [] A10 (upd A10 t11 (.tup [.str "row", .ref t10, .int 1])) := Eff.refl.put n11
    have h11 : (upd A10 t11 (.tup [.str "row", .ref t10, .int 1])) t11 = some (.tup [.str "row", .ref t10, .int 1]) := upd_same
    generalize (upd A10 t11 (.tup [.str "row", .ref t10, .int 1])) = A11 at *
    refine ⟨small (by simp), fun t12 n12 => ?_⟩
    have e12 : Eff [] A11 (upd A11 t12 (.tup [.str "step"])) := Eff.refl.put n12
    have h12 : (upd A11 t12 (.tup [.str "step"])) t12 = some (.tup [.str "step"]) := upd_same
    generalize (upd A11 t12 (.tup [.str "step"])) = A12 at *
    refine ⟨small (by simp), fun t13 n13 => ?_⟩
    have e13 : Eff [] A12 (upd A12 t13 (.tup [.ref t12, .non])) := Eff.refl.put n13
    have h13 : (upd A12 t13 (.tup [.ref t12, .non])) t13 = some (.tup [.ref t12, .non]) := upd_same
    generalize (upd A12 t13 (.tup [.ref t12, .non])) = A13 at *
    refine ⟨small (by simp), fun t14 n14 => ?_⟩
    have e14 : Eff [] A13 (upd A13 t14 (.tup [.str "row", .ref t13])) := Eff.refl.put n14
    have h14 : (upd A13 t14 (.tup [.str "row", .ref t13])) t14 = some (.tup [.str "row", .ref t13]) := upd_same
    generalize (upd A13 t14 (.tup [.str "row", .ref t13])) = A14 at *
    refine ⟨small (by simp), fun t15 n15 => ?_⟩
    have e15 : Eff [] A14 (upd A14 t15 (.tup [.str "step"])) := Eff.refl.put n15
    have h15 : (upd A14 t15 (.tup [.str "step"])) t15 = some (.tup [.str "step"]) := upd_same
    generalize (upd A14 t15 (.tup [.str "step"])) = A15 at *
    refine ⟨small (by simp), fun t16 n16 => ?_⟩
    have e16 : Eff [] A15 (upd A15 t16 (.tup [.str "both", .ref t15])) := Eff.refl.put n16
    have h16 : (upd A15 t16 (.tup [.str "both", .ref t15])) t16 = some (.tup [.str "both", .ref t15]) := upd_same
    generalize (upd A15 t16 (.tup [.str "both", .ref t15])) = A16 at *
    refine ⟨small (by simp), fun t17 n17 => ?_⟩
    have e17 : Eff [] A16 (upd A16 t17 (.lst [.non, .int 5, .ref t1, .ref t2, .ref t3, .ref t4, .ref t5, .ref t8, .ref t11, .ref t14, .ref t16])) := Eff.refl.put n17
    have h17 : (upd A16 t17 (.lst [.non, .int 5, .ref t1, .ref t2, .ref t3, .ref t4, .ref t5, .ref t8, .ref t11, .ref t14, .ref t16])) t17 = some (.lst [.non, .int 5, .ref t1, .ref t2, .ref t3, .ref t4, .ref t5, .ref t8, .ref t11, .ref t14, .ref t16]) := upd_same
    generalize (upd A16 t17 (.lst [.non, .int 5, .ref t1, .ref t2, .ref t3, .ref t4, .ref t5, .ref t8, .ref t11, .ref t14, .ref t16])) = A17 at *
    have F17 := e17
    have F16 := e16.trans F17
    have F15 := e15.trans F16
    have F14 := e14.trans F15
    have F13 := e13.trans F14
    have F12 := e12.trans F13
    have F11 := e11.trans F12
    have F10 := e10.trans F11
    have F9 := e9.trans F10
    have F8 := e8.trans F9
    have F7 := e7.trans F8
    have F6 := e6.trans F7
    have F5 := e5.trans F6
    have F4 := e4.trans F5
    have F3 := e3.trans F4
    have F2 := e2.trans F3
    have F1 := e1.trans F2
    have s1 := F2.seqT0 (K := K) (SqT.of h1)
    have s2 := F3.seqT0 (K := K) (SqT.of h2)
    have s3 := F4.seqT0 (K := K) (SqT.of h3)
    have s4 := F5 _ _ h4 (by simp)
    have s5 := F6.seqT0 (K := K) (SqT.of h5)
    have s6 := F7.seqT0 (K := K) (SqT.of h6)
    have s7 := F8 _ _ h7 (by simp)
    have s8 := F9.seqT0 (K := K) (SqT.of h8)
    have s9 := F10.seqT0 (K := K) (SqT.of h9)
    have s10 := F11.seqT0 (K := K) (SqT.of h10)
    have s11 := F12.seqT0 (K := K) (SqT.of h11)
    have s12 := F13.seqT0 (K := K) (SqT.of h12)
    have s13 := F14.seqT0 (K := K) (SqT.of h13)
    have s14 := F15.seqT0 (K := K) (SqT.of h14)
    have s15 := F16.seqT0 (K := K) (SqT.of h15)
    have s16 := F17.seqT0 (K := K) (SqT.of h16)
    have hDa := hD6.eff F1
    have hla := hl6.same F1
    have out : ∀ (p : Addr) (xs : List V), A17 p = some (.lst xs) → (∀ (z : V) (i : Int), xs ≠ [z, .int i] ∨ xs.length ≠ 2) → (∀ cs : List Int, xs ≠ cs.map V.int) → p ∉ [d, l] := by
      intro p xs hp n1 n2 z
      obtain ⟨cs, b, k1, k2, _⟩ := hDa
      rcases List.mem_cons.mp z with z | z
      · rw [z, k1] at hp
        have e := HO.lst.inj (Option.some.inj hp)
        rcases n1 (.ref l) b with q | q
        · exact q e.symm
        · exact q (by rw [← e]; rfl)
      · rw [List.mem_singleton.mp z, k2] at hp
        exact n2 cs (HO.lst.inj (Option.some.inj hp)).symm
    have o4 : t4 ∉ [d, l] := out t4 _ s4 (fun z i => .inr (by simp)) (fun cs e => by cases cs <;> cases e)
    have o7 : t7 ∉ [d, l] := out t7 _ s7 (fun z i => .inr (by simp)) (fun cs e => by cases cs <;> cases e)
    have oa : t17 ∉ [d, l] := out t17 _ h17 (fun z i => .inr (by simp)) (fun cs e => by cases cs <;> cases e)
    have no : t17 ≠ d ∧ t17 ≠ l := ⟨fun z => oa (by simp [z]), fun z => oa (by simp [z])⟩
    refine ⟨d, l, t17, _, rfl, hDa, .inl (.inl h17), no.1, no.2, by simp, by simp, fun B0 nv eB hDB hmem => ?_⟩
    obtain ⟨d1, a1, f1, z1⟩ : ∃ d1, At K [d, l] B0 d1 nv ∧ isLotD d1 = false ∧ sizeD d1 ≤ 1000 := by
      have go : ∀ (dd : PyData) (vv : V), At K [d, l] A17 dd vv → isLotD dd = false → sizeD dd ≤ 1000 → ∃ d1, At K [d, l] B0 d1 vv ∧ isLotD d1 = false ∧ sizeD d1 ≤ 1000 := fun dd vv h1 h2 h3 => ⟨dd, At.eff eB hDa.lists (fun _ z => z) dd vv h1, h2, h3⟩
      simp only [List.mem_cons, List.not_mem_nil, or_false] at hmem
      rcases hmem with rfl | rfl | rfl | rfl | rfl | rfl | rfl | rfl | rfl | rfl | rfl
      · exact go .none _ rfl (by decide +kernel) (by decide +kernel)
      · exact go (.int 5) _ rfl (by decide +kernel) (by decide +kernel)
      · exact go (.tuple []) _ ⟨t1, _, rfl, s1, rfl⟩ (by decide +kernel) (by decide +kernel)
      · exact go (.tuple [.str "step", .int 1]) _ ⟨t2, _, rfl, s2, _, _, rfl, rfl, _, _, rfl, rfl, rfl⟩ (by decide +kernel) (by decide +kernel)
      · exact go (.tuple [.str "steps"]) _ ⟨t3, _, rfl, s3, _, _, rfl, rfl, rfl⟩ (by decide +kernel) (by decide +kernel)
      · exact go (.list [.str "step"]) _ ⟨t4, _, rfl, s4, o4, _, _, rfl, rfl, rfl⟩ (by decide +kernel) (by decide +kernel)
      · exact go (.tuple [.str "row"]) _ ⟨t5, _, rfl, s5, _, _, rfl, rfl, rfl⟩ (by decide +kernel) (by decide +kernel)
      · exact go (.tuple [.str "row", .list [.tuple [.str "step"]]]) _ ⟨t8, _, rfl, s8, _, _, rfl, rfl, _, _, rfl, ⟨t7, _, rfl, s7, o7, _, _, rfl, ⟨t6, _, rfl, s6, _, _, rfl, rfl, rfl⟩, rfl⟩, rfl⟩ (by decide +kernel) (by decide +kernel)
      · exact go (.tuple [.str "row", .tuple [.tuple [.str "step"]], .int 1]) _ ⟨t11, _, rfl, s11, _, _, rfl, rfl, _, _, rfl, ⟨t10, _, rfl, s10, _, _, rfl, ⟨t9, _, rfl, s9, _, _, rfl, rfl, rfl⟩, rfl⟩, _, _, rfl, rfl, rfl⟩ (by decide +kernel) (by decide +kernel)
      · exact go (.tuple [.str "row", .tuple [.tuple [.str "step"], .none]]) _ ⟨t14, _, rfl, s14, _, _, rfl, rfl, _, _, rfl, ⟨t13, _, rfl, s13, _, _, rfl, ⟨t12, _, rfl, s12, _, _, rfl, rfl, rfl⟩, _, _, rfl, rfl, rfl⟩, rfl⟩ (by decide +kernel) (by decide +kernel)
      · exact go (.tuple [.str "both", .tuple [.str "step"]]) _ ⟨t16, _, rfl, s16, _, _, rfl, rfl, _, _, rfl, ⟨t15, _, rfl, s15, _, _, rfl, rfl, rfl⟩, rfl⟩ (by decide +kernel) (by decide +kernel)
    have e1b : Eff [d, l] H1 B0 := (eM.trans F1.nil).trans eB
    have hlb := hla.keep eB hDa.lists
    clear F2 e2 h2 n2 F3 e3 h3 n3 F4 e4 h4 n4 F5 e5 h5 n5 F6 e6 h6 n6 F7 e7 h7 n7 F8 e8 h8 n8 F9 e9 h9 n9 F10 e10 h10 n10 F11 e11 h11 n11 F12 e12 h12 n12 F13 e13 h13 n13 F14 e14 h14 n14 F15 e15 h15 n15 F16 e16 h16 n16 F17 e17 h17 n17 s1 s2 s3 s4 s5 s6 s7 s8 s9 s10 s11 s12 s13 s14 s15 s16 out F1 eM hDa hla hD6 hl6 n1 h1
    -- near = _law_of(deal, [near, near, ..] + ([] if right else [lot]))
    refine ⟨_, rfl, _, rfl, _, rfl, ?_⟩
    refine ⟨small (by simp), fun u1 m1 => ?_⟩
    have g1 : Eff [] B0 (upd B0 u1 (.tup [.str "step"])) := Eff.refl.put m1
    have k1 : (upd B0 u1 (.tup [.str "step"])) u1 = some (.tup [.str "step"]) := upd_same
    generalize (upd B0 u1 (.tup [.str "step"])) = B1 at *
    refine ⟨small (by simp), fun u2 m2 => ?_⟩
    have g2 : Eff [] B1 (upd B1 u2 (.tup [.str "step"])) := Eff.refl.put m2
    have k2 : (upd B1 u2 (.tup [.str "step"])) u2 = some (.tup [.str "step"]) := upd_same
    generalize (upd B1 u2 (.tup [.str "step"])) = B2 at *
    refine ⟨small (by simp), fun u3 m3 => ?_⟩
    have g3 : Eff [] B2 (upd B2 u3 (.tup [.str "step"])) := Eff.refl.put m3
    have k3 : (upd B2 u3 (.tup [.str "step"])) u3 = some (.tup [.str "step"]) := upd_same
    generalize (upd B2 u3 (.tup [.str "step"])) = B3 at *
    refine ⟨small (by simp), fun u4 m4 => ?_⟩
    have g4 : Eff [] B3 (upd B3 u4 (.tup [.str "both", .ref u1, .ref u2, .ref u3])) := Eff.refl.put m4
    have k4 : (upd B3 u4 (.tup [.str "both", .ref u1, .ref u2, .ref u3])) u4 = some (.tup [.str "both", .ref u1, .ref u2, .ref u3]) := upd_same
    generalize (upd B3 u4 (.tup [.str "both", .ref u1, .ref u2, .ref u3])) = B4 at *
    refine ⟨small (by simp), fun u5 m5 => ?_⟩
    have g5 : Eff [] B4 (upd B4 u5 (.tup [.str "step"])) := Eff.refl.put m5
    have k5 : (upd B4 u5 (.tup [.str "step"])) u5 = some (.tup [.str "step"]) := upd_same
    generalize (upd B4 u5 (.tup [.str "step"])) = B5 at *
    refine ⟨small (by simp), fun u6 m6 => ?_⟩
    have g6 : Eff [] B5 (upd B5 u6 (.tup [])) := Eff.refl.put m6
    have k6 : (upd B5 u6 (.tup [])) u6 = some (.tup []) := upd_same
    generalize (upd B5 u6 (.tup [])) = B6 at *
    refine ⟨small (by simp), fun u7 m7 => ?_⟩
    have g7 : Eff [] B6 (upd B6 u7 (.tup [.str "both", .ref u5, .ref u6])) := Eff.refl.put m7
    have k7 : (upd B6 u7 (.tup [.str "both", .ref u5, .ref u6])) u7 = some (.tup [.str "both", .ref u5, .ref u6]) := upd_same
    generalize (upd B6 u7 (.tup [.str "both", .ref u5, .ref u6])) = B7 at *
    refine ⟨small (by simp), fun u8 m8 => ?_⟩
    have g8 : Eff [] B7 (upd B7 u8 (.tup [.str "step"])) := Eff.refl.put m8
    have k8 : (upd B7 u8 (.tup [.str "step"])) u8 = some (.tup [.str "step"]) := upd_same
    generalize (upd B7 u8 (.tup [.str "step"])) = B8 at *
    refine ⟨small (by simp), fun u9 m9 => ?_⟩
    have g9 : Eff [] B8 (upd B8 u9 (.tup [.ref u8])) := Eff.refl.put m9
    have k9 : (upd B8 u9 (.tup [.ref u8])) u9 = some (.tup [.ref u8]) := upd_same
    generalize (upd B8 u9 (.tup [.ref u8])) = B9 at *
    refine ⟨small (by simp), fun u10 m10 => ?_⟩
    have g10 : Eff [] B9 (upd B9 u10 (.tup [.str "step"])) := Eff.refl.put m10
    have k10 : (upd B9 u10 (.tup [.str "step"])) u10 = some (.tup [.str "step"]) := upd_same
    generalize (upd B9 u10 (.tup [.str "step"])) = B10 at *
    refine ⟨small (by simp), fun u11 m11 => ?_⟩
    have g11 : Eff [] B10 (upd B10 u11 (.tup [.str "row", .ref u10])) := Eff.refl.put m11
    have k11 : (upd B10 u11 (.tup [.str "row", .ref u10])) u11 = some (.tup [.str "row", .ref u10]) := upd_same
    generalize (upd B10 u11 (.tup [.str "row", .ref u10])) = B11 at *
    refine fun u12 m12 => ?_
    have g12 : Eff [] B11 (upd B11 u12 (.dK [])) := Eff.refl.put m12
    have k12 : (upd B11 u12 (.dK [])) u12 = some (.dK []) := upd_same
    generalize (upd B11 u12 (.dK [])) = B12 at *
    refine ⟨small (by simp), fun u13 m13 => ?_⟩
    have g13 : Eff [] B12 (upd B12 u13 (.lst [nv, nv, .ref u4, .ref u7, .str "step", .ref u9, .ref u11, .ref u12, .bl true])) := Eff.refl.put m13
    have k13 : (upd B12 u13 (.lst [nv, nv, .ref u4, .ref u7, .str "step", .ref u9, .ref u11, .ref u12, .bl true])) u13 = some (.lst [nv, nv, .ref u4, .ref u7, .str "step", .ref u9, .ref u11, .ref u12, .bl true]) := upd_same
    generalize (upd B12 u13 (.lst [nv, nv, .ref u4, .ref u7, .str "step", .ref u9, .ref u11, .ref u12, .bl true])) = B13 at *
    refine tail_if rfl rfl fun B14 p ys g14 hp hys => ?_
    refine ⟨u13, p, _, ys, rfl, rfl, g14 _ _ k13 (by simp), hp, ?_, fun u15 m15 => ?_⟩
    · rcases hys with rfl | ⟨rfl, _⟩ <;> exact small (by simp)
    have g15 : Eff [] B14 (upd B14 u15 (.lst ([nv, nv, .ref u4, .ref u7, .str "step", .ref u9, .ref u11, .ref u12, .bl true] ++ ys))) := Eff.refl.put m15
    have k15 : (upd B14 u15 (.lst ([nv, nv, .ref u4, .ref u7, .str "step", .ref u9, .ref u11, .ref u12, .bl true] ++ ys))) u15 = some (.lst ([nv, nv, .ref u4, .ref u7, .str "step", .ref u9, .ref u11, .ref u12, .bl true] ++ ys)) := upd_same
    generalize (upd B14 u15 (.lst ([nv, nv, .ref u4, .ref u7, .str "step", .ref u9, .ref u11, .ref u12, .bl true] ++ ys))) = B15 at *
    have G15 := g15
    have G14 := g14.trans G15
    have G13 := g13.trans G14
    have G12 := g12.trans G13
    have G11 := g11.trans G12
    have G10 := g10.trans G11
    have G9 := g9.trans G10
    have G8 := g8.trans G9
    have G7 := g7.trans G8
    have G6 := g6.trans G7
    have G5 := g5.trans G6
    have G4 := g4.trans G5
    have G3 := g3.trans G4
    have G2 := g2.trans G3
    have G1 := g1.trans G2
    have s1 := G2.seqT0 (K := K) (SqT.of k1)
    have s2 := G3.seqT0 (K := K) (SqT.of k2)
    have s3 := G4.seqT0 (K := K) (SqT.of k3)
    have s4 := G5.seqT0 (K := K) (SqT.of k4)
    have s5 := G6.seqT0 (K := K) (SqT.of k5)
    have s6 := G7.seqT0 (K := K) (SqT.of k6)
    have s7 := G8.seqT0 (K := K) (SqT.of k7)
    have s8 := G9.seqT0 (K := K) (SqT.of k8)
    have s9 := G10.seqT0 (K := K) (SqT.of k9)
    have s10 := G11.seqT0 (K := K) (SqT.of k10)
    have s11 := G12.seqT0 (K := K) (SqT.of k11)
    have s12 := G13 _ _ k12 (by simp)
    have hDc := hDB.eff G1
    have hlc := hlb.same G1
    have a15 : At K [d, l] B15 d1 nv := At.eff G1 Lists.nil (fun _ z => absurd z (by simp)) d1 nv a1
    have out2 : ∀ (p : Addr), B15 p ≠ none → (∀ xs, B15 p = some (.lst xs) → 3 ≤ xs.length ∧ ∀ cs : List Int, xs ≠ cs.map V.int) → p ∉ [d, l] := by
      intro p hp0 hp z
      obtain ⟨cs, b, k1, k2, _⟩ := hDc
      rcases List.mem_cons.mp z with z | z
      · have q1 := (hp _ (by rw [z]; exact k1)).1
        simp at q1
      · exact (hp _ (by rw [List.mem_singleton.mp z]; exact k2)).2 cs rfl
    have o12 : u12 ∉ [d, l] := out2 u12 (by rw [s12]; simp) fun xs z => by (rw [s12] at z; cases z)
    have o15 : u15 ∉ [d, l] := out2 u15 (by rw [k15]; simp) fun xs z => by
      rw [k15] at z
      obtain rfl := HO.lst.inj (Option.some.inj z)
      refine ⟨by simp, fun cs e => ?_⟩
      have q5 := congrArg (fun z : List V => z[2]?) e
      simp only [List.getElem?_map] at q5
      cases q6 : cs[2]? <;> rw [q6] at q5 <;> cases q5
    have no2 : u15 ≠ d ∧ u15 ≠ l := ⟨fun z => o15 (by simp [z]), fun z => o15 (by simp [z])⟩
    have lys : ys.length ≤ 1 := by rcases hys with rfl | ⟨rfl, _⟩ <;> simp
    refine ⟨d, l, u15, _, rfl, hDc, .inl (.inl k15), no2.1, no2.2, by simp, by simp; omega, fun C0 nw eC hDC hmem => ?_⟩
    obtain ⟨d2, a2, f2, z2⟩ : ∃ d2, At K [d, l] C0 d2 nw ∧ isLotD d2 = false ∧ sizeD d2 ≤ 1000000 := by
      have go : ∀ (dd : PyData) (vv : V), At K [d, l] B15 dd vv → isLotD dd = false → sizeD dd ≤ 1000000 → ∃ d2, At K [d, l] C0 d2 vv ∧ isLotD d2 = false ∧ sizeD d2 ≤ 1000000 := fun dd vv h1 h2 h3 => ⟨dd, At.eff eC hDc.lists (fun _ z => z) dd vv h1, h2, h3⟩
      rcases List.mem_append.mp hmem with hmem | hmem
      · simp only [List.mem_cons, List.not_mem_nil, or_false] at hmem
        rcases hmem with rfl | rfl | rfl | rfl | rfl | rfl | rfl | rfl | rfl
        · exact go d1 _ a15 f1 (by omega)
        · exact go d1 _ a15 f1 (by omega)
        · exact go (.tuple [.str "both", .tuple [.str "step"], .tuple [.str "step"], .tuple [.str "step"]]) _ ⟨u4, _, rfl, s4, _, _, rfl, rfl, _, _, rfl, ⟨u1, _, rfl, s1, _, _, rfl, rfl, rfl⟩, _, _, rfl, ⟨u2, _, rfl, s2, _, _, rfl, rfl, rfl⟩, _, _, rfl, ⟨u3, _, rfl, s3, _, _, rfl, rfl, rfl⟩, rfl⟩ (by decide +kernel) (by decide +kernel)
        · exact go (.tuple [.str "both", .tuple [.str "step"], .tuple []]) _ ⟨u7, _, rfl, s7, _, _, rfl, rfl, _, _, rfl, ⟨u5, _, rfl, s5, _, _, rfl, rfl, rfl⟩, _, _, rfl, ⟨u6, _, rfl, s6, rfl⟩, rfl⟩ (by decide +kernel) (by decide +kernel)
        · exact go (.str "step") _ rfl (by decide +kernel) (by decide +kernel)
        · exact go (.tuple [.tuple [.str "step"]]) _ ⟨u9, _, rfl, s9, _, _, rfl, ⟨u8, _, rfl, s8, _, _, rfl, rfl, rfl⟩, rfl⟩ (by decide +kernel) (by decide +kernel)
        · exact go (.tuple [.str "row", .tuple [.str "step"]]) _ ⟨u11, _, rfl, s11, _, _, rfl, rfl, _, _, rfl, ⟨u10, _, rfl, s10, _, _, rfl, rfl, rfl⟩, rfl⟩ (by decide +kernel) (by decide +kernel)
        · exact go (.dict []) _ ⟨rfl, u12, rfl, s12, o12⟩ (by decide +kernel) (by decide +kernel)
        · exact go (.bool true) _ rfl (by decide +kernel) (by decide +kernel)
      · rcases hys with rfl | ⟨rfl, hf⟩
        · simp at hmem
        · rw [List.mem_singleton.mp hmem]
          exact go lot.data v (At.any (M := []) lot.data v (imm_lot lot) hlc) hf (by omega)
    have e1c : Eff [d, l] H1 C0 := (e1b.trans G1.nil).trans eC
    have hPC := e1c _ _ hP1 (by simp [nPd, nPl])
    clear G1 g1 G2 g2 G3 g3 G4 g4 G5 g5 G6 g6 G7 g7 G8 g8 G9 g9 G10 g10 G11 g11 G12 g12 G13 g13 G14 g14 G15 g15 s1 s2 s3 s4 s5 s6 s7 s8 s9 s10 s11 s12 out2 a15 hDc hlc hlb a1 e1b
    -- heard
    have five : ∀ x ∈ ([V.ref (He.ga K "work_in"), V.ref (He.ga K "span"), V.ref (He.ga K "width"), V.ref (He.ga K "heights"), V.ref (He.ga K "levels")] : List V), ∃ f, x = .ref f ∧ Five w K mg base f := by
      intro x hx
      simp only [List.mem_cons, List.not_mem_nil, or_false] at hx
      rcases hx with rfl | rfl | rfl | rfl | rfl
      · exact ⟨_, rfl, five_of ((bad_of c_work_in).mono (by decide)) T.g_work_in⟩
      · exact ⟨_, rfl, five_of ((bad_of c_span).mono (by decide)) T.g_span⟩
      · exact ⟨_, rfl, five_of ((bad_of c_width).mono (by decide)) T.g_width⟩
      · exact ⟨_, rfl, five_of (bad_of c_heights) T.g_heights⟩
      · exact ⟨_, rfl, five_of (bad_of c_levels) T.g_levels⟩
    refine ⟨small (by simp), fun fl nfl => ?_⟩
    have efl : Eff [] C0 (upd C0 fl (.lst [.ref (He.ga K "work_in"), .ref (He.ga K "span"), .ref (He.ga K "width"), .ref (He.ga K "heights"), .ref (He.ga K "levels")])) := Eff.refl.put nfl
    have hfl : (upd C0 fl (.lst [.ref (He.ga K "work_in"), .ref (He.ga K "span"), .ref (He.ga K "width"), .ref (He.ga K "heights"), .ref (He.ga K "levels")])) fl = some (.lst [.ref (He.ga K "work_in"), .ref (He.ga K "span"), .ref (He.ga K "width"), .ref (He.ga K "heights"), .ref (He.ga K "levels")]) := upd_same
    generalize (upd C0 fl (.lst [.ref (He.ga K "work_in"), .ref (He.ga K "span"), .ref (He.ga K "width"), .ref (He.ga K "heights"), .ref (He.ga K "levels")])) = C1 at *
    have a3 : At K [d, l] C1 d2 nw := At.eff efl Lists.nil (fun _ z => absurd z (by simp)) d2 nw a2
    have hPC1 := efl _ _ hPC (by simp)
    refine ⟨fl, rfl, ⟨_, .inl (.inl hfl)⟩, fun D nD => ?_⟩
    have eD : Eff [] C1 (upd C1 D (.lst [])) := Eff.refl.put nD
    have tabs : LamX.Tabs [(P, qL)] C1 := fun p hp => by
      rw [List.mem_singleton.mp hp]
      exact LamX.TabS.nil hPC1
    have nfD : fl ≠ D := ne_of_none hfl nD
    refine lc_list (K := K) (a := fl) (xs := [.ref (He.ga K "work_in"), .ref (He.ga K "span"), .ref (He.ga K "width"), .ref (He.ga K "heights"), .ref (He.ga K "levels")]) (fun i H2 => ∃ us : List V, us.length = i ∧ H2 D = some (.lst us) ∧ (∀ u ∈ us, ∃ t, u = .ref t ∧ SqT K H2 t [.str "question", .int 0]) ∧ LamX.Tabs [(P, qL)] H2 ∧ At K (D :: [d, l]) H2 d2 nw ∧ H2 fl = some (.lst [.ref (He.ga K "work_in"), .ref (He.ga K "span"), .ref (He.ga K "width"), .ref (He.ga K "heights"), .ref (He.ga K "levels")])) ?_ (fun i H2 _ ⟨_, _, _, _, _, _, h⟩ => .inl (.inl h)) ?_ ?_
    · exact ⟨[], rfl, upd_same, by simp, tabs.ext fun b o hb => eD b o hb (by simp), At.eff eD Lists.nil (fun _ z => absurd z (by simp)) d2 nw (At.fresh nD d2 nw a3), eD _ _ hfl (by simp)⟩
    · rintro i x H2 hx ⟨us, rfl, hD, hu, hT, hn, hf2⟩
      have hil := (List.getElem?_eq_some_iff.mp hx).1
      simp only [List.length_cons, List.length_nil] at hil
      obtain ⟨f0, rfl, hf⟩ := five x (List.mem_of_getElem? hx)
      refine ⟨rfl, yes_go ⟨hT, fun H3 eN hT3 R => ⟨f0, rfl, hf, _, rfl, nw, D :: [d, l], d2, rfl, At.ext eN d2 nw hn, z2, f2, fun H4 dd e4 h0 h1 => ⟨rfl, dd, .int 0, rfl, h1, fun t nt => ?_⟩⟩⟩⟩
      have et : Eff [] H4 (upd H4 t (.tup [.str "question", .int 0])) := Eff.refl.put nt
      have ht : (upd H4 t (.tup [.str "question", .int 0])) t = some (.tup [.str "question", .int 0]) := upd_same
      generalize (upd H4 t (.tup [.str "question", .int 0])) = H5 at *
      have e5 := e4.trans et
      have hD3 := eN _ _ hD (by intro ps z; cases z)
      have hD5 := e5 _ _ hD3 (by simp)
      refine ⟨us, hD5, Nat.lt_of_lt_of_le (show us.length < 1000001 by omega) (by decide), us ++ [.ref t], by simp, upd_same, fun u hu' => ?_, ?_, ?_, ?_⟩
      · rcases List.mem_append.mp hu' with hu' | hu'
        · obtain ⟨t', rfl, ht'⟩ := hu u hu'
          exact ⟨t', rfl, SqT.put hD5 (e5.seqT0 (SqT.ext ht' eN))⟩
        · rw [List.mem_singleton.mp hu']
          exact ⟨t, rfl, SqT.put hD5 (SqT.of ht)⟩
      · exact tabs_put (hT3.ext fun b o hb => e5 b o hb (by simp)) hD5
      · exact At.put hD5 (by simp) (At.eff e5 Lists.nil (fun _ z => absurd z (by simp)) d2 nw (At.ext eN d2 nw hn))
      · rw [upd_ne nfD]
        exact e5 _ _ (eN _ _ hf2 (by intro ps z; cases z)) (by simp)
    · rintro H2 ⟨us, lus, hD, hu, hT, hn, hf2⟩
      have lus5 : us.length = 5 := lus
      refine ⟨_, rfl, D :: [d, l], nw, d2, rfl, hn, z2, fun H3 e3 => ⟨isLotD d2, false, rfl, rfl, _, rfl, ite2 (fun _ => ?_) (fun c => absurd (by rw [f2]; rfl) c)⟩⟩
      refine ⟨_, rfl, small (by simp), fun t0 n0 => ?_⟩
      have e4 : Eff [] H3 (upd H3 t0 (.tup [.str "question", .int 0])) := Eff.refl.put n0
      have h4 : (upd H3 t0 (.tup [.str "question", .int 0])) t0 = some (.tup [.str "question", .int 0]) := upd_same
      generalize (upd H3 t0 (.tup [.str "question", .int 0])) = H4 at *
      refine ⟨small (by simp), fun l0 m0 => ?_⟩
      have e5 : Eff [] H4 (upd H4 l0 (.lst [.ref t0])) := Eff.refl.put m0
      have h5 : (upd H4 l0 (.lst [.ref t0])) l0 = some (.lst [.ref t0]) := upd_same
      generalize (upd H4 l0 (.lst [.ref t0])) = H5 at *
      refine ⟨l0, 5, _, rfl, rfl, h5, by decide, by decide, small (by simp), fun p np => ?_⟩
      have e6 : Eff [] H5 (upd H5 p (.lst (List.replicate (5 : Int).toNat [V.ref t0]).flatten)) := Eff.refl.put np
      have h6 : (upd H5 p (.lst (List.replicate (5 : Int).toNat [V.ref t0]).flatten)) p = some (.lst (List.replicate (5 : Int).toNat [V.ref t0]).flatten) := upd_same
      generalize (upd H5 p (.lst (List.replicate (5 : Int).toNat [V.ref t0]).flatten)) = H6 at *
      rw [flat_one] at h6
      have e36 := ((e3.trans e4).trans e5).trans e6
      have t06 := (e5.trans e6).seqT0 (K := K) (SqT.of h4)
      have q0 : ∀ (t : Addr), SqT K H6 t [.str "question", .int 0] → At K [] H6 (.tuple [.str "question", .int 0]) (.ref t) := fun t ht => ⟨t, _, rfl, ht, _, _, rfl, rfl, _, _, rfl, rfl, rfl⟩
      refine ⟨.ref D, .ref p, .list (List.replicate 5 (.tuple [.str "question", .int 0])), rfl, ?_, ?_, ?_, fun H7 e7 => q H7⟩
      · intro x hx
        rw [List.eq_of_mem_replicate hx]
        intro y hy
        simp only [List.mem_cons, List.not_mem_nil, or_false] at hy
        rcases hy with rfl | rfl <;> exact trivial
      · refine ⟨D, us, rfl, e36 _ _ hD (by simp), by simp, ?_⟩
        rw [← lus5]
        refine atl_rep fun u hu' => ?_
        obtain ⟨t', rfl, ht'⟩ := hu u hu'
        exact q0 t' (e36.seqT0 ht')
      · exact ⟨p, _, rfl, h6, by simp, atl_rep (us := List.replicate 5 (V.ref t0)) fun u hu' => by rw [List.eq_of_mem_replicate hu']; exact q0 t0 t06⟩
end
end HK
set_option Elab.async false
set_option linter.all false
set_option maxRecDepth 100000
set_option maxHeartbeats 0
namespace HK
open PySem PySem.Spec PyProof.Rows L2
theorem law_at {w : World} {mg : Str → Option Value} {fa : Addr} {h : Heap} {K : PySem.W.Frag} (X : K.In h) (G : h.Ns mainGlobals mg) (cc : HH.SaysH fas fns xs xv tf file h K) (hm : mg "law" = some (.ref fa)) :
    LamX.LawAtS PySem.Challenge.rw_heldshares_k55_whole_work_span_width w K CX0 131 63 "script" mg fa h := by
  have T : Tx K mg := ⟨⟨h, X, G, cc⟩⟩
  obtain ⟨fd, F⟩ := cc.d.def_ 30 rfl
  have hb := F.bindsA (ps := ["script"]) fun _ _ _ _ _ _ us hl => match us, hl with | [_], _ => rfl
  obtain ⟨oc, od, dV, kV, doc, pm, an, cdv, ct, osl, rfl, lk, hcd, _, _⟩ := F.ex
  obtain ⟨c, rfl⟩ := He.codeIn_ref hcd
  have ec : (He.cT K ("law", none)).1 = c := He.codeOf_eq lk rfl
  have e := hm.symm.trans T.g_law
  have e : fa = He.ga K "law" := by
    have e := Option.some.inj e
    injection e
  subst e
  refine ⟨_, [He.cT K ("law", none)], spLaw K (He.cT K ("law", none)).2, fun p hp => ?_, fun p hp => ?_, fun p hp => ?_, fun s v => hb s [v] rfl, fun H a ns hl _ ht hS => ?_, fun base hK hG TB => ?_⟩
  · rw [List.mem_singleton.mp hp]
    exact cc.empty ("law", none) (by simp [tf])
  · rw [List.mem_singleton.mp hp]
    exact cc.out ("law", none) (by simp [tf])
  · rw [List.mem_singleton.mp hp]
    exact PySem.W.codeHd_of_K X (cc.hd ("law", none) (by simp [tf]))
  · exact ⟨a, ns, rfl, hS, ht _ (by simp), fun _ => rfl⟩
  · have tb := TB _ (List.mem_singleton.mpr rfl)
    rw [ec] at tb
    refine fn_of lk hcd sc_law (fun vs H Q E z => by obtain ⟨a, ns, rfl, _⟩ := z; rfl) fun A outer s H vs Q E hr z => ?_
    obtain ⟨t, h1, h2⟩ := law_body (w := w) (base := base) T tb hr z
    exact ⟨t, h1.nox, h2⟩
end HK
open PySem PySem.W PySem.Calls PyProof.Rows
theorem PySem.Challenge.cw_heldshares_k55_whole_work_span_width_holds : PySem.Challenge.rw_heldshares_k55_whole_work_span_width.Holds := by
  w_on; o_law
  refine HandSHeadRun.head_any (r := OpenLaw.row PySem.Challenge.rw_heldshares_k55_whole_work_span_width) (q := view (OpenLaw.row PySem.Challenge.rw_heldshares_k55_whole_work_span_width).prog [45]) (H := HK.hk) (ob := HK.ob) (M := 20000) (loose := HK.names0 ++ HK.names1) (d := HandSHeadRun.topDef (OpenLaw.row PySem.Challenge.rw_heldshares_k55_whole_work_span_width).prog 45) (kwd := []) HK.ob_eq
    (by kernel_rfl) (fun s => by kernel_rfl) HK.run (by kernel_rfl) (by kernel_rfl) (by kernel_rfl) (by rfl) (by first | assumption | decide +kernel) (by decide +kernel) ⟨rfl, rfl, rfl, rfl, rfl, by decide +kernel⟩ ?hw ?hc
  case hw => w_witness2
  case hc =>
    refine LamX.walk_ofTsE (l := PySem.Challenge.rw_heldshares_k55_whole_work_span_width) (n := 63) (k := 131) (x := "script") (CX := fun _ => L2.CX0) rfl (by decide) (by kernel_rfl) ⟨rfl, by decide, by decide⟩ ?F (fun _ _ _ _ _ z => z)
    intro w mg fa h Y G hmg0
    obtain ⟨K, KX, c⟩ := Y
    have hmg : mg ("law" : PySem.Str) = some (.ref fa) := by
      have e : (HandSHeadRun.topDef (OpenLaw.row PySem.Challenge.rw_heldshares_k55_whole_work_span_width).prog 45).name = ("law" : PySem.Str) := by kernel_rfl
      rw [← e]
      exact hmg0
    exact ⟨K, KX, HK.law_at KX G c hmg⟩
