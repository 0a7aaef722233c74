import PyProof.Rows.All
import Wide.All
import OpenK.AllK
import Wide.FinOn
import KE.KExcSuper
import HandS.ForMost
import HandS.Exc
import HandS.ExcSuper
import HandS.ExcOwn
import HandS.MakeKwOnly
import KE.KSortTupAny
import HandS.Sort
import HandS.SortOrd
import HandS.SortRule
import HandS.SortInts
import HandS.List
import HandS.ForExc
import HandS.IsInst
import HandS.Star
import HandS.Style
import HandS.TupAny
import PySem.Challenge.RW_batchnumbers_k45_whole_best_questions
set_option Elab.async false
set_option linter.all false
set_option maxRecDepth 100000
set_option maxHeartbeats 4200000
/-! own errors over an own base over ValueError: their __init__ says super().__init__(text), then stores `at` -/
namespace PySem
namespace ErrX
open PySem.HandSPX PySem.W PySem.Calls PyProof.Rows
/-- the text of __init__ -/
def pA (p1 p2 : Pos) : Arguments := { posonlyargs := [], args := [{ arg := "self", annotation := none, pos := p1 }, { arg := "at", annotation := none, pos := p2 }], vararg := none, kwonlyargs := [], kw_defaults := [], kwarg := none, defaults := [] }
def pB (txt : Str) (j : Nat) (q1 q2 q3 q4 q5 q6 q7 q8 q9 q10 : Pos) : List Stmt := [
  .Expr (.Call (.Attribute (.Call (.Name "super" q1) [] [] q2) "__init__" q3) [.Constant (.str txt) j q4] [] q5) q6,
  .Assign [.Attribute (.Name "self" q7) "at" q8] (.Name "at" q9) q10]
def pS : Scope := { kind := .function, names := [(PySem.Str.ofString "self", .local), (PySem.Str.ofString "at", .local), (PySem.Str.ofString "__class__", .free), (PySem.Str.ofString "super", .globalImplicit)], isGenerator := false, isCoroutine := false, more := [] }
/-- what the written part says of the class x at C and of its __init__ at fI -/
structure ErrTxt (P : Program) (K : Frag) (mg : Str → Option Value) (x : Str) (C fI : Addr) : Prop where
  gC : mg x = some (.ref C)
  cls : ∃ nm q N bs bm sn sub ab col dd k0 k1 k2 k3 k5, K.lookup C = some (excClassObj nm q C N bs bm true sn sub ab col dd k0 k1 k2 k3 k5 "ValueError.__new__") ∧ refsVE bm = true
  sa : findIn K (.ref C) "__setattr__" = some (some (.builtin "object.__setattr__"))
  ga : findIn K (.ref C) "__getattribute__" = some (some (.builtin "BaseException.__getattribute__"))
  gg : findIn K (.ref C) "__getattr__" = some none
  noN : findIn K (.ref C) "at" = some none
  iC : findIn K (.ref C) "__init__" = some (some (.ref fI))
  tC : typeIn K (.ref fI) = some (.type "function")
  kC : keepIn K (.ref C) = true
  exC : subIn K (.ref C) (.type "BaseException") = some true
  veC : subIn K (.ref C) (.type "ValueError") = some true
  tyC : typeIn K (.ref C) = some (.type "type")
  hdC : hasDictIn K C = true
  mro : mroIn K C (.ref C) = some true
  sup : ks_superIn K C C "__init__" = some (some (.builtin "ValueError.__init__"))
  opq : nsIn K cStatics "thirdparty.any" = some none
  noS : mg "super" = none
  top : (P.main.scope.names.lookup ("super" : Str)).isSome = false
  te : exmOne K (.ref C) (.ref C) = some true
  fn : ∃ (oc : Value) (od : Option Addr) (doc pm : Value) (an : Option Addr) (cda cc : Addr) (ct : Value) (osl : Array (Option Value)) (p1 p2 q1 q2 q3 q4 q5 q6 q7 q8 q9 q10 : Pos) (txt qual : Str) (j : Nat)
      (_ : (q3.endLine == q5.line) = true) (ccl : Value) (cdd : Option Addr) (vs : Array Value) (ccs : Array (Option Value)) (file : Str) (tf : Tok) (cl : Value) (cld : Option Addr) (csl : Array (Option Value)),
    K.lookup fI = some ⟨oc, od, .func (ksFn "__init__" qual (pA p1 p2) (pB txt j q1 q2 q3 q4 q5 q6 q7 q8 q9 q10) pS .none .none doc pm an (.ref cda) ct cc), osl⟩ ∧ codeIn K (.ref cda) qual = true ∧
      K.lookup cda = some ⟨ccl, cdd, .fields vs, ccs⟩ ∧ vs[2]? = some (.str file tf) ∧ ((P.main.file : Str) == file) = true ∧ K.lookup cc = some ⟨cl, cld, .cell (some (.ref C)), csl⟩
theorem ev_call {txt : Str} {j : Nat} {q1 q2 q3 q4 q5 : Pos} {env : Env} (hl : (q3.endLine == q5.line) = true) :
    eval (.Call (.Attribute (.Call (.Name "super" q1) [] [] q2) "__init__" q3) [.Constant (.str txt) j q4] [] q5) env = (do
      let ov ← attributeBase (.Call (.Name "super" q1) [] [] q2) "__init__" env (eval (.Call (.Name "super" q1) [] [] q2) env)
      standAt q3.atName
      let (f, first) ← holding [ov] (getMethod ov "__init__" (do return (← importBound (.Call (.Name "super" q1) [] [] q2) env).getD true))
      callWith q5 f first (backTo q5 (starEach [.Constant (.str txt) j q4] env)) []) := by
  have hp : ∀ few, methodCallPos few (.Call (.Name "super" q1) [] [] q2) env q3 q5 = pure q5 := fun few => by
    unfold methodCallPos
    rw [hl, Bool.or_true, if_pos rfl]
  show (do
      let ov ← attributeBase (.Call (.Name "super" q1) [] [] q2) "__init__" env (eval (.Call (.Name "super" q1) [] [] q2) env)
      standAt q3.atName
      let (f, first) ← holding [ov] (getMethod ov "__init__" (do return (← importBound (.Call (.Name "super" q1) [] [] q2) env).getD true))
      let p ← methodCallPos true (.Call (.Name "super" q1) [] [] q2) env q3 q5
      callWith p f first (backTo q5 (starEach [.Constant (.str txt) j q4] env)) []) = _
  rw [hp]
  simp only [pure_bind]
theorem one_size (v : Value) : [v].length ≤ sizeLine := by
  rw [sizeLine_eq]
  exact (by decide : 1 ≤ 16777216)
/-- what __init__ leaves of a fresh error at x -/
structure InitEnd (h h' : Heap) (x C dx t1 : Addr) (v : Value) : Prop where
  keep : ∀ b o, b ≠ x → h.get? b = some o → h'.get? b = some o
  obj : h'.get? x = some { cls := .ref C, dict := some dx, data := .fields #[.ref t1, .none, .none, .none, .bool false, .none] }
  dbig : h.objs.size ≤ dx
  dne : dx ≠ x
  ns : h'.Ns1 dx (fun y => if y = "at" then some v else none)
structure OwnMade (h h' : Heap) (e C d : Addr) (v : Value) : Prop where
  keep : ∀ b o, h.get? b = some o → h'.get? b = some o
  new : h.objs.size ≤ e
  obj : ∃ oe vs, h'.get? e = some oe ∧ oe.cls = .ref C ∧ oe.dict = some d ∧ oe.data = .fields vs ∧ vs[1]? = some .none
  dbig : h.objs.size ≤ d
  dne : d ≠ e
  ns : h'.Ns1 d (fun y => if y = "at" then some v else none)
section
variable {os : OsState} {prog : Program} {w : World} {A : Around} {E : Value → Shared → Prop} {h : Heap} {g : Array GenState} {d : Drawn} {t : Nat}
variable {k0 k1 k2 k3 k5 : Option Value} {nm q : Str} {C N : Addr} {bs bm : List Value} {hdct : Bool} {sn : List Str} {sub : List Value} {ab : Bool} {col : Option Bool} {dd : Option Addr}
/-- the wrapper of ValueError.__init__, called -/
theorem call_mw {u e t0 : Addr} {rest : List Value} {Q : Value → Shared → Prop}
    (hC : h.get? C = some (excClassObj nm q C N bs bm hdct sn sub ab col dd k0 k1 k2 k3 k5 "ValueError.__new__")) (he : h.get? e = some (excO C t0)) (hu : h.get? u = some (kxs_mw "ValueError.__init__" e)) (hrest : rest.length ≤ sizeLine)
    (hq : ∀ h' t1, (∀ b o, b ≠ e → h.get? b = some o → h'.get? b = some o) → h'.get? e = some (excO C t1) → Q .none ⟨h', g, d, t, os⟩) :
    wpAny (model prog w) A (PySem.call (.ref u) rest) Q E ⟨h, g, d, t, os⟩ := by
  refine (wpAny_call (codeAny_of_tree ?_))
  show (wpAny _ A.in1 (callAny (.ref u) ⟨rest, []⟩) _ _ _)
  simp only [callAny]
  refine (wpAny_bind (wpAny_load hu ?_))
  (simp only [kxs_mw, show (Value.type "method-wrapper" == Value.type "method" || Value.type "method-wrapper" == Value.type "builtin_function_or_method" || Value.type "method-wrapper" == Value.type "method-wrapper") = true by decide, if_true])
  refine KFB.if_so (by decide) (?_)
  refine wpAny_bind (ESX.check_bound F.excBase_ValueError hC he rfl ?_)
  refine (wpAny_bind (wpAny_pure (wpAny_pure ?_)))
  refine ⟨plainId_quiet F.excBase_ValueError.init.plain _, codeAny_builtin F.excBase_ValueError.initEntry ?_⟩
  exact exc_init_tree (cls := .ref C) (t0 := t0) (dv := none) (c2 := .none) (c3 := .none) (b4 := .bool false) he hrest fun h' k e' _ => hq h' h.objs.size k e'
end
section
variable {prog : Program} {w : World} {A : Around} {E : Value → Shared → Prop} {R : Result → Shared → Prop} {s : Shared} {K : Frag} {mg mb : Str → Option Value} {x : Str} {C fI : Addr}
theorem err_init (T : ErrTxt prog K mg x C fI) {e t0 : Addr} {v : Value} (X : K.In s.heap) (hlim : s.heap.NoLimit) (hgl : s.heap.Ns mainGlobals mg) (hbl : s.heap.Ns builtinsNs mb) (hmb : mb "super" = bootBuiltins "super")
    (hx : s.heap.get? e = some (excO C t0)) (hroom : A.depth < recursionLimit) (hnx : K.lookup e = none)
    (hq : ∀ h' tk dx t1, InitEnd s.heap h' e C dx t1 v → R (.ok (.ret .none)) { s with heap := h', toks := tk }) :
    codeAny (model prog w) A (.call (.ref fI) ⟨[.ref e, v], []⟩) R s := by
  obtain ⟨oc, od, doc, pm, an, cda, cc, ct, osl, p1, p2, q1, q2, q3, q4, q5, q6, q7, q8, q9, q10, txt, qual, j, hln, ccl, cdd, fv, ccs, file, tf, cl, cld, csl, ho, hcd, hcode, hvs, hfile, hcell⟩ := T.fn
  obtain ⟨nm, q, N, bs, bm, sn, sub, ab, col, dd, k0, k1, k2, k3, k5, hC, hbm⟩ := (T.cls)
  have hcl : clsIn K C = some { name := nm, bases := bs, mro := .ref C :: bm, ns := N, qualname := q, hasDict := true, slotNames := sn, subclasses := sub, abstract := ab, collection := col, hasDel := false } := by unfold clsIn; rw [hC] <;> rfl
  refine ks_codeAny_call_defAt (fd := ksFn "__init__" qual (pA p1 p2) (pB txt j q1 q2 q3 q4 q5 q6 q7 q8 q9 q10) pS .none .none doc pm an (.ref cda) ct cc) (body := pB txt j q1 q2 q3 q4 q5 q6 q7 q8 q9 q10) (binds := [("self", .ref e), ("at", v)])
    hroom (X _ _ ho) rfl hlim (codeRec_of X hcd) rfl (BindsTo.of_eq (by first | rfl | with_unfolding_all rfl)) (show ∀ y ∈ pS.names, y.2 ≠ .cell by decide) (by intro y hy; revert y; exact locs rfl) (fun h₁ hns k => ?_) rfl rfl rfl
  have hxL : s.heap.objs.size ≠ e := Nat.ne_of_gt (Heap.lt_size hx)
  have X₁ : K.In h₁ := X.keeps k
  have hx₁ := k _ _ hx
  have hC₁ := X₁ _ _ hC
  have zL : s.heap.objs.size < h₁.objs.size := hns.lt
  show wpAt (model prog w) (A.deeper (ksEnv qual pS s.heap.objs.size fI (.ref cda) cc)) (.func (pB txt j q1 q2 q3 q4 q5 q6 q7 q8 q9 q10) (ksEnv qual pS s.heap.objs.size fI (.ref cda) cc)) (execs (_ :: _) (ksEnv qual pS s.heap.objs.size fI (.ref cda) cc)) _ _ _
  refine ks_wpAt_execs_cons ?_
  refine ks_wpAt_Expr_any ?_
  refine ks_wpAt_MethodCall (pl := (do return (← importBound (.Call (.Name "super" q1) [] [] q2) (ksEnv qual pS s.heap.objs.size fI (.ref cda) cc)).getD true)) ?_ (he := ev_call hln)
  refine ks_wpAt_super_base (env := ksEnv qual pS s.heap.objs.size fI (.ref cda) cc) rfl rfl rfl rfl (X₁ _ _ ho) rfl rfl rfl (X₁ _ _ hcode) rfl hvs hfile T.top ?_
  refine ks_loadName_global rfl rfl (loadGlobal_builtin (env := ksEnv qual pS s.heap.objs.size fI (.ref cda) cc) (hgl.keeps k) T.noS (hbl.keeps k) (hmb.trans (by first | boot_by_name | rfl | kernel_rfl)) ⟨rfl, ?_⟩)
  refine wpAny_loadName_free rfl rfl rfl ⟨_, X₁ _ _ hcell, rfl⟩ ?_
  refine wpAny_loadName_local rfl rfl hns (show _ = some (Value.ref e) by first | rfl | with_unfolding_all rfl | kernel_rfl) ?_
  refine ks_wpAny_isType_cls hC₁ rfl ⟨rfl, ?_⟩
  refine ks_wpAny_call_super hC₁ rfl hx₁ rfl (fun c z => by cases z) (looks_mroIn X₁ T.mro) (fun h₂ e₂ k₂ => ?_)
  have X₂ : K.In h₂ := X₁.keeps k₂
  have hx₂ := k₂ _ _ hx₁
  have I₂ : InstAt h₂ e (excO C t0) C none := ⟨hx₂, rfl, rfl, trivial⟩
  have hsup := T.sup
  unfold ks_superIn at hsup
  rw [hcl] at hsup
  refine kxs_getMethod kxs_ValueError e₂ (looks_opaque X₂ T.opq) (l₀ := .ref C :: bm) (fun A Q E s k q => wpAny_bind ((looks_clsIn X₂ hcl) A _ E s k (wpAny_pure q))) rfl X₂ hsup (I₂.type.andThen (looks_subIn X₂ T.veC)) (ks_ne X₂ I₂ hcl) rfl ?_
  have k₃ : ∀ b o, h₂.get? b = some o → (h₂.push (kxs_mw "ValueError.__init__" e)).get? b = some o := fun b o z => Heap.get?_push_of_some _ z
  have hu : (h₂.push (kxs_mw "ValueError.__init__" e)).get? h₂.objs.size = some (kxs_mw "ValueError.__init__" e) := Heap.get?_push_at rfl rfl
  refine kxs_callWith (i := "ValueError.__init__") (x := e) rfl (evalArgs_plain ?_)
  refine Calls.spliced_cons (Calls.Constant_str (k := j) (pos := q4) (Calls.spliced_nil ⟨hu, ?_⟩))
  refine call_mw (X₂.keeps k₃ _ _ hC) (k₃ _ _ hx₂) hu (one_size _) fun h₄ t1 k₄ e₄ => ?_
  have kk : ∀ b o, b ≠ e → h₁.get? b = some o → h₄.get? b = some o := fun b o hb z => k₄ b o hb (k₃ b o (k₂ b o z))
  have X₄ : K.In h₄ := fun a o z => kk a o (fun y => by rw [y, hnx] at z; cases z) (X₁ a o z)
  have hn₄ : h₄.Ns s.heap.objs.size (fun y => ([(("self" : Str), Value.ref e), (("at" : Str), v)].reverse).lookup y) := by
    obtain ⟨oL, es, ep, hL, r⟩ := hns
    exact ⟨oL, es, ep, kk _ _ hxL hL, r⟩
  show wpAt _ _ _ (execs _ _) _ _ _
  refine wpAt_of_wpAny (wpAny_execs_cons (plainObj_wpAny_Assign_Attribute ?_))
  refine wpAny_Name (wpAny_loadName_local rfl rfl hn₄ (show _ = some v by first | rfl | with_unfolding_all rfl | kernel_rfl) ?_) (by decide)
  refine wpAny_Name (wpAny_loadName_local rfl rfl hn₄ (show _ = some (Value.ref e) by first | rfl | with_unfolding_all rfl | kernel_rfl) ?_) (by decide)
  refine set_plain X₄ (ox := excO C t1) (od := none) ⟨e₄, rfl, rfl, trivial⟩ T.sa ?_
  refine exc_osa X₄ e₄ hcl (show refsVE (.ref C :: bm) = true from hbm) rfl T.noN (fun h₃ tk₃ dx k₅ dn dne hx₃ hn₃ => ?_)
  show wpAny _ _ (execs _ _) _ _ _
  refine wpAny_execs_nil (hq h₃ tk₃ dx t1 ⟨fun b o hb z => k₅ b o hb (kk b o hb (k b o z)), hx₃, ?_, dne, hn₃⟩)
  obtain ⟨oL, es, ep, hL, r⟩ := hn₄
  exact Nat.le_of_lt (Nat.lt_of_lt_of_le (Heap.lt_size hL) dn)
theorem err_made (T : ErrTxt prog K mg x C fI) {v : Value} (X : K.In s.heap) (hlim : s.heap.NoLimit) (hgl : s.heap.Ns mainGlobals mg) (hbl : s.heap.Ns builtinsNs mb) (hmb : mb "super" = bootBuiltins "super") (hroom : A.depth + 1 < recursionLimit)
    (hq : ∀ h' tk e d, OwnMade s.heap h' e C d v → R (.ok (.ret (.ref e))) { s with heap := h', toks := tk }) :
    codeAny (model prog w) A (.call (.ref C) ⟨[v], []⟩) R s := by
  obtain ⟨nm, q, N, bs, bm, sn, sub, ab, col, dd, k0, k1, k2, k3, k5, hC, hbm⟩ := (T.cls)
  obtain ⟨hp, g, dr, tk, os⟩ := (s)
  have k : ∀ b o, hp.get? b = some o → ((hp.push (kdv_tup [v])).push (excO C hp.objs.size)).get? b = some o := fun b o e => Heap.get?_push_of_some _ (Heap.get?_push_of_some _ e)
  have hget : ((hp.push (kdv_tup [v])).push (excO C hp.objs.size)).get? (hp.objs.size + 1) = some (excO C hp.objs.size) := by heap_get
  have hnx : K.lookup (hp.objs.size + 1) = none := by
    cases e : K.lookup (hp.objs.size + 1) with
    | none => rfl
    | some o =>
      have z : hp.get? (hp.objs.size + 1) = some o := X _ _ e
      exact absurd (Nat.lt_of_succ_lt (Heap.lt_size z)) (Nat.lt_irrefl _)
  refine call_own F.excBase_ValueError (fun X => refsVE_contains X bm hbm) (X _ _ hC) (looks_findIn X T.iC) (fun self => bind_fn X self T.tC) (one_size v) ?_
  refine err_init (s := ⟨(hp.push (kdv_tup [v])).push (excO C hp.objs.size), g, dr, tk, os⟩) T (X.keeps k) (hlim.keeps k) (hgl.keeps k) (hbl.keeps k) hmb hget ?_ hnx fun h' tk' dx t1 ⟨k', hx, dn, dne, hns⟩ => ?_
  · show A.depth + 1 < recursionLimit
    exact hroom
  · have old : ∀ b o, hp.get? b = some o → h'.get? b = some o := fun b o e => k' b o (Nat.ne_of_lt (Nat.lt_succ_of_lt (Heap.lt_size e))) (k b o e)
    have z : hp.objs.size + 1 + 1 ≤ dx := by
      first
        | (simpa only [Heap.size_push] using dn)
        | exact dn
        | (have q := dn; rw [Heap.size_push, Heap.size_push] at q; exact q)
    exact ⟨rfl, hq h' tk' (hp.objs.size + 1) dx ⟨old, Nat.le_succ _, ⟨_, _, hx, rfl, rfl, rfl, rfl⟩, Nat.le_trans (Nat.le_trans (Nat.le_succ _) (Nat.le_succ _)) z, dne, hns⟩⟩
end
end ErrX
end PySem
namespace L2
open PyProof.Rows PySem.Spec PySem
/-- the one field of such an error's own dict -/
abbrev atF (v : V) : List (Str × V) := [(("at" : Str), v)]
theorem relO_at {v : V} {v' : Value} (r : RelV v v') (f : Str) : RelO (List.lookup f (atF v)) (if f = "at" then some v' else none) := by
  by_cases hw : f = "at"
  · subst hw
    rw [if_pos rfl]
    have q : List.lookup ("at" : Str) (atF v) = some v := by simp [List.lookup]
    rw [q]
    exact r
  · rw [if_neg hw]
    have qw : (f == ("at" : Str)) = false := by simpa using hw
    have q2 : List.lookup f (atF v) = none := by simp [List.lookup, qw]
    rw [q2]
    trivial
section
variable {X : Cx} {C fI : Addr} {x : Str}
/-- x(e), an error of the class at C -/
def tMkErr (C : Addr) (ta : TA) : St → Hp → XK → Prop := fun σ H Q => ta σ H fun vs H1 => ∃ v, vs = [v] ∧ ∀ d, H1 d = none → Q (.ref C) (some d) (upd H1 d (.xd (atF v)))
theorem pmk_err {a : Expr} {ta : TA} {p pos : Pos} {k : Nat} (T : PySem.ErrX.ErrTxt X.prog X.K X.mg x C fI) (hr : Room k X.A) (ha : PA X [a] ta) (hg : Gl X x) (hdb : (x == ("__debug__" : Str)) = false := by decide)
    (he : starEach (a :: []) X.env = (false, eval a X.env) :: starEach [] X.env := by rfl) (hpl : (backTo pos (starEach [] X.env)).any (·.1) = false := by rfl) :
    PMk X (.Call (.Name x p) [a] [] pos) (tMkErr C ta) := by
  intro pins s σ H Q I h
  refine wpAny_Call_Name_kw (ld_glob I hg T.gC ?_ hdb)
  refine PySem.W.callWith_K (h₀ := X.base) I.ok.mod.kin T.kC (thn (ha.run pos pins s σ H _ I h) fun us s1 hh => ?_) he hpl
  obtain ⟨vs, H1, I1, r1, v, ev, q1⟩ := hh
  subst ev
  refine ⟨I1.kIn, ?_⟩
  cases r1 with
  | cons rv rn =>
    rename_i v' us'
    cases rn
    show wpAny _ _ (call (.ref C) [v']) _ _ _
    have hlim := I1.nolimit
    obtain ⟨mb, hb1, hb2⟩ := I1.mod.blt
    have hgl := I1.mod.glob.keeps I1.bk
    have hbl := hb1.keeps I1.bk
    obtain ⟨hp, g, dr, tk, os⟩ := (s1)
    refine wpAny_call (PySem.ErrX.err_made T I1.kIn hlim hgl hbl (hb2 "super" (by decide)) (by have := hr.dp; omega) fun h' tk' e d M => ?_)
    show MkP X pins σ Q (.ref e) ⟨h', g, dr, tk', os⟩
    obtain ⟨oe, fv, hoe, hc, hd, hdat, h1⟩ := M.obj
    have hns := M.ns
    obtain ⟨G', g1, g2⟩ := restrict h' fun b => decide (b ≠ e)
    have gk : ∀ b, b ≠ e → G'.get? b = h'.get? b := fun b hb => g1 b (decide_eq_true hb)
    have ge : G'.get? e = none := g2 e (by simp)
    have old : ∀ b o, hp.get? b = some o → G'.get? b = some o := fun b o q => (gk b (Nat.ne_of_lt (Nat.lt_of_lt_of_le (Heap.lt_size q) M.new))).trans (M.keep b o q)
    have ob : ObjOk X.prog X.w (upd H1 d (.xd (atF v))) G' d (.xd (atF v)) :=
      ⟨_, hns.at (fun o q => (gk d M.dne).trans q), fun f => relO_at rv f⟩
    have J : Inv X pins σ (upd H1 d (.xd (atF v))) ⟨G', g, dr, tk', os⟩ := I1.laid (t' := tk') old M.dbig ob
    refine ⟨e, oe, fv, ⟨G', g, dr, tk', os⟩, _, .ref C, some d, rfl, J, fun b o q => ?_, ge, hoe, ⟨hc, hd⟩, hdat, h1, ?_, rfl, I1.bare, raises_own T.exC T.tyC, q1 d (I1.hok.fresh M.dbig)⟩
    · by_cases hb : b = e
      · have q' : G'.get? b = some o := q
        rw [hb, ge] at q'; cases q'
      · exact (gk b hb).symm.trans q
    · rw [upd_ne (Ne.symm M.dne)]
      exact I1.hok.fresh M.new
/-- raise x(e) -/
def tRaiseErr (C : Addr) (W : WX) (ta : TA) : TS := fun _ σ H => tMkErr C ta σ H fun cls d H' => W cls d σ H'
theorem ps_raiseErr {a : Expr} {ta : TA} {W : WX} {p pos pos2 : Pos} {k : Nat} (hc : X.calm = true) (T : PySem.ErrX.ErrTxt X.prog X.K X.mg x C fI) (hr : Room k X.A) (tk : Takes X W) (ha : PA X [a] ta) (hg : Gl X x) (hdb : (x == ("__debug__" : Str)) = false := by decide)
    (he : starEach (a :: []) X.env = (false, eval a X.env) :: starEach [] X.env := by rfl) (hpl : (backTo pos (starEach [] X.env)).any (·.1) = false := by rfl) :
    PS X (.Raise (some (.Call (.Name x p) [a] [] pos)) none pos2) (tRaiseErr C W ta) := ps_raise hc tk (pmk_err T hr ha hg hdb he hpl)
/-- e.at, e the error that the suite holds (at a; its class cls, its dict d) -/
def tAtErr (C : Addr) (a : Addr) (cls : Value) (d : Option Addr) (te : TE) : TE := fun σ H Q => te σ H fun x H1 => x = .ref a ∧ cls = .ref C ∧ ∃ (dd : Addr) (v : V), d = some dd ∧ H1 dd = some (.xd (atF v)) ∧ Q v H1
theorem pe_atErr {a : Addr} {oe : Obj} {cls : Value} {d : Option Addr} {pn : List (Addr × Obj)} {e : Expr} {te : TE} {pos : Pos} (T : PySem.ErrX.ErrTxt X.prog X.K X.mg x C fI) (hz : Zc cls d oe) (hf : ∃ vs, oe.data = .fields vs) (he : PE (X.suite a ((a, oe) :: pn)) e te)
    (hb : attributeBase e "at" X.env (eval e X.env) = eval e X.env := by rfl) :
    PE (X.suite a ((a, oe) :: pn)) (.Attribute e "at" pos) (tAtErr C a cls d te) := by
  refine (⟨fun pins s σ H Q I h => ?_⟩)
  refine (attr_of hb (thn (he.run pins s σ H _ I h) fun u s1 hh => ?_))
  obtain ⟨x, H1, I1, rx, ex, ec, dd, v, ed, ea, q⟩ := hh
  subst ex
  obtain rfl : u = Value.ref a := (rx)
  subst ec
  subst ed
  obtain ⟨ha, _⟩ := (I1.pin (a, oe) (List.mem_append_left _ List.mem_cons_self))
  obtain ⟨vs, hd⟩ := hf
  have hx : ObjOk X.prog X.w H1 s1.heap dd (.xd (atF v)) := I1.hok dd _ ea
  obtain ⟨mA, hns, hr⟩ := hx
  obtain ⟨od, ho, hl⟩ := (lookIn_ns hns)
  have l : List.lookup ("at" : Str) (atF v) = some v := by simp [List.lookup]
  obtain ⟨u, hu, ru⟩ := RelO.some_of (v := v) (o := mA "at") (by rw [← l]; exact hr "at")
  have J : PySem.W.InstAt s1.heap a oe C (some od) := (⟨ha, hz.1, by unfold PySem.W.notCls; rw [hd] <;> rfl, by rw [hz.2]; exact ho⟩)
  exact HandSPX.exc_get I1.kIn J T.ga T.gg T.exC (PySem.W.findObj_own T.hdC T.noN rfl (by rw [hl, hu])) (handed_of ru) ⟨v, H1, I1.tok _, ru, q⟩
end
end L2
/-! try: body, then several clauses `except x as n` -/
namespace L2
open PyProof.Rows PySem.Spec PySem
/-- behind a clause its name is gone -/
def goneD (i : Nat) (D : Ends) : Ends :=
  { nx := fun σ' H' => D.nx (σ'.set i none) H', rt := D.rt, bk := fun σ' H' => D.bk (σ'.set i none) H', ct := fun σ' H' => D.ct (σ'.set i none) H' }
abbrev NamedCl := Value × Nat × (Addr → Value → Option Addr → TS)
/-- what the named clauses wish of an error of the body -/
def wNamed (K : PySem.W.Frag) (Wo : WX) (D : Ends) : List NamedCl → WX
  | [] => Wo
  | cl :: rest => fun cls d σ H => ∃ yes, PySem.W.exmOne K cls cl.1 = some yes ∧
      (yes = true → ∀ a, H a = none → cl.2.2 a cls d (goneD cl.2.1 D) (σ.set cl.2.1 (some (.ref a))) H) ∧ (yes = false → wNamed K Wo D rest cls d σ H)
inductive NamedOk (X : Cx) : List ExceptHandler → List NamedCl → Prop
  | nil : NamedOk X [] []
  | cons {x n : Str} {c : Value} {i : Nat} {ts : Addr → Value → Option Addr → TS} {st : Stmt} {sts : List Stmt} {np hp : Pos} {hds : List ExceptHandler} {l : List NamedCl}
      (nm : Names X x c) (ni : X.N[i]? = some n) (nl : X.env.kindOf n = some .local)
      (su : ∀ (a : Addr) (oe : Obj) (cls : Value) (d : Option Addr) (pn : List (Addr × Obj)), Zc cls d oe → (∃ vs, oe.data = .fields vs) → PSs (X.suite a ((a, oe) :: pn)) (st :: sts) (ts a cls d))
      (more : NamedOk X hds l) : NamedOk X (.ExceptHandler (some (.Name x np)) (some n) (st :: sts) hp :: hds) ((c, i, ts) :: l)
section
variable {X : Cx}
/-- an error that flies over this frame, held by the ground B -/
structure OverUs (X : Cx) (pins : List (Addr × Obj)) (B : Heap) (a : Addr) (cls : Value) (d : Option Addr) (sI s : Shared) (σ : St) (H : Hp) : Prop where
  inv : Inv X pins σ H sI
  gnd : ∀ b o, sI.heap.get? b = some o → b ∉ frs X.stack → B.get? b = some o
  ups : sI.heap.UpToSlots s.heap
  fly : HandSPX.FlyingZ B (X.env :: X.outer) a (Zc cls d) s.heap
  non : H a = none
  ose : s.os = sI.os
  bar : AllBare s.gens
theorem OverUs.here {pins : List (Addr × Obj)} {B : Heap} {a : Addr} {cls : Value} {d : Option Addr} {sI s : Shared} {σ : St} {H : Hp} (o : OverUs X pins B a cls d sI s σ H) (hf : X.env.frame = some X.env.locals) :
    Inv X pins σ H s ∧ ∃ oe, s.heap.get? a = some oe ∧ Zc cls d oe ∧ (∃ vs, oe.data = .fields vs) ∧ Inv (X.suite a ((a, oe) :: (X.pn ++ pins))) [] σ H s := by
  have J := o.inv.landed o.gnd o.fly.1 o.ups o.ose o.bar
  obtain ⟨oe, vs, he, hz, hd⟩ := o.fly.there
  have off : a ∉ frs (X.env :: X.outer) := fun hm => by
    obtain ⟨_, o', e', hnf⟩ := o.fly.2.2.1.mem hm
    rw [he] at e'
    cases e'
    exact hnf _ hd
  refine ⟨J, oe, he, hz, ⟨vs, hd⟩, J.suite he hd o.non (fun z => off ?_) fun hm => off ?_⟩
  · exact List.mem_filterMap.mpr ⟨X.env, List.mem_cons_self, by rw [hf, z]⟩
  · obtain ⟨ev, hev, q⟩ := List.mem_filterMap.mp hm
    exact List.mem_filterMap.mpr ⟨ev, List.mem_cons_of_mem _ hev, q⟩
theorem handle_named {pins : List (Addr × Obj)} {B : Heap} {a : Addr} {cls : Value} {d : Option Addr} {sI s : Shared} {σ : St} {H : Hp} {D : Ends} {Wo : WX}
    (hs : X.stack = X.env :: X.outer) (hf : X.env.frame = some X.env.locals) (hN : X.N.Nodup) (tk : Takes X Wo) :
    ∀ {hds : List ExceptHandler} {l : List NamedCl}, NamedOk X hds l → OverUs X pins B a cls d sI s σ H → wNamed X.K Wo D l cls d σ H →
      wpAny (model X.prog X.w) X.A (handleBy (.ref a) X.env hds) (SP X pins D) X.xe s := by
  intro hds l hk
  induction hk with
  | nil =>
    intro ov w
    refine wpAny_handleBy_nil ?_
    obtain ⟨k1, k2, k3, oe, vs, T, oT, ts', he, hz, hd, h1, hr⟩ := id ov.fly
    unfold PySem.passOn
    refine (wpAny_bind (wpAny_field he hd h1 ?_))
    rw [if_neg (show ¬ ((Value.ref T == Value.none) = true) by simp)]
    have fin : wpAny (model X.prog X.w) X.A (setFlight (.ref a) X.env.frame)
        (fun _ s4 => wpAny (model X.prog X.w) X.A (throw (.ref a) : Sem Flow) (SP X pins D) X.xe s4) X.xe s := by
      rw [hf]
      refine HandSPX.setFlight_upZ ov.fly fun h4 hh4 up4 => ?_
      refine wpAny_throw (tk _ _ ⟨a, B, sI, pins, σ, H, cls, d, rfl, ov.inv, ov.gnd, ov.ups.trans up4, ?_, ov.non, ov.ose, ov.bar, w⟩)
      rw [hs]
      exact .inr (.inr hh4)
    first
      | exact (wpAny_bind (wpAny_pure (wpAny_bind fin)))
      | exact wpAny_bind fin
  | @cons x n c i ts st sts np hp hds2 l2 nm ni nl su more ih =>
    intro ov w
    obtain ⟨J, oe, he, hz, hd, S⟩ := ov.here hf
    obtain ⟨yes, e1, onYes, onNo⟩ := w
    refine (wpAny_handleBy_cons (codeAny_handlers_test ?_) (by intro q; cases q))
    have LT : PySem.W.Looks (model X.prog X.w) s.heap (typeOf (.ref a)) cls := fun A Q E s2 k q =>
      wpAny_typeOf_ref (k _ _ he) (by rw [hz.1]; exact q)
    have LM := PySem.W.exm_one (M := model X.prog X.w) J.kIn LT e1
    have test : ∀ {Q : Value → Shared → Prop} {E : Value → Shared → Prop}, Q c s →
        wpAny (model X.prog X.w) (X.A.mark (some (.ref a))) (eval (.Name x np) X.env) Q E s := fun {Q E} q => by
      obtain ⟨hg, hdb, hm | ⟨hm, hv, hnn⟩⟩ := nm
      · exact ld_glob (X := X.suite a ((a, oe) :: (X.pn ++ pins))) S hg hm q hdb
      · exact ld_blt (X := X.suite a ((a, oe) :: (X.pn ++ pins))) S hg hm hv q hnn hdb
    refine test (LM.here ?_)
    cases yes with
    | false => exact ih ov (onNo rfl)
    | true =>
      refine codeAny_handlers_suite_as (?_)
      refine HandSPX.lands_againZ ov.fly fun h4 fl4 up4 => ?_
      have ov4 : OverUs X pins B a cls d sI { s with heap := h4 } σ H := ⟨ov.inv, ov.gnd, ov.ups.trans up4, fl4, ov.non, ov.ose, ov.bar⟩
      obtain ⟨J4, oe4, he4, hz4, hd4, S4⟩ := ov4.here hf
      refine store_ok (X := X.suite a ((a, oe4) :: (X.pn ++ pins))) (v := .ref a) S4 hN ni (.inl nl) rfl (fun s5 S5 => ?_) (.inr nl)
      refine wpAny_mono ((su a oe4 cls d (X.pn ++ pins) hz4 hd4).run [] s5 _ H _ S5 (onYes rfl a ov.non)) (fun f s6 hsp => ?_) (fun _ _ z => False.elim z)
      have ends : ∀ {σ6 : St} {H6 : Hp} {Q : Shared → Prop}, Inv (X.suite a ((a, oe4) :: (X.pn ++ pins))) [] σ6 H6 s6 → (∀ s7, Inv X pins (σ6.set i none) H6 s7 → Q s7) →
          wpAny (model X.prog X.w) X.A (do bindName X.env n .none; unbindBehindTheSuite X.env n hp) (fun _ s7 => Q s7) X.xe s6 := fun {σ6 H6 Q} S6 hq =>
        gone_ok (S6.unsuite ov.inv.ok) hN ni nl hq
      cases f with
      | ret u =>
        obtain ⟨v6, σ6, H6, S6, r6, q6⟩ := (hsp)
        exact ends S6 fun s7 J7 => ⟨_, _, _, J7, r6, q6⟩
      | next =>
        obtain ⟨σ6, H6, S6, q6⟩ := (hsp)
        exact ends S6 fun s7 J7 => ⟨_, _, J7, q6⟩
      | brk =>
        obtain ⟨σ6, H6, S6, q6⟩ := (hsp)
        exact ends S6 fun s7 J7 => ⟨_, _, J7, q6⟩
      | cont =>
        obtain ⟨σ6, H6, S6, q6⟩ := (hsp)
        exact ends S6 fun s7 J7 => ⟨_, _, J7, q6⟩
theorem ps_try_named {body : List Stmt} {h0 : ExceptHandler} {hds : List ExceptHandler} {l : List NamedCl} {pos : Pos} {tb : WX → TS} {Wo : WX}
    (hs : X.stack = X.env :: X.outer) (hf : X.env.frame = some X.env.locals) (hN : X.N.Nodup) (tk : Takes X Wo)
    (hb : ∀ (W : WX) (pn : List (Addr × Obj)) (xe : Value → Shared → Prop), Takes (X.tr pn xe) W → PassesOwn (model X.prog X.w) X.A X.env xe → PSs (X.tr pn xe) body (tb W)) (hh : NamedOk X (h0 :: hds) l) : PS X (.Try body (h0 :: hds) [] [] pos) (fun D σ H => tb (wNamed X.K Wo D l) D σ H) := by
  refine (⟨fun pins s σ H D I h => ?_⟩)
  have ok := I.ok
  have hfr : X.A.frames = some (X.env :: X.outer) := by (rw [ok.frames, hs])
  refine wpAny_Try_except ?_
  refine wpAny_mono ((hb (wNamed X.K Wo D l) (X.pn ++ pins) (fun e s₁ => wpAny (model X.prog X.w) X.A (noteFrame e X.env) (fun _ s₂ =>
    wpAny (model X.prog X.w) X.A (setFlight e none) (fun _ s₃ => wpAny (model X.prog X.w) X.A (handleBy e X.env (h0 :: hds)) (SP X pins D) X.xe s₃) X.xe s₂) X.xe s₁)
    (fun u s' xx => ?_) PassesOwn.looking).run [] s σ H D (I.toTry _) h) (fun f s1 hsp => ?_) (fun e s1 he => he)
  · obtain ⟨a, B, sI, pins', σ', H', cls, d, rfl, J', nb, up, sky, na, os, ag, w⟩ := xx
    have J : Inv X pins σ' H' sI := (J'.ofTry ok)
    have sky' : Sky B (X.env :: X.outer) a (Zc cls d) X.env.locals s'.heap := by (rw [← hs]; exact sky)
    show (wpAny (model X.prog X.w) X.A (noteFrame (.ref a) X.env) _ _ _)
    refine (Sky.land Zc.steady hfr hf sky' fun h3 fl3 up3 => ?_)
    exact handle_named hs hf hN tk hh ⟨J, nb, up.trans up3, fl3, na, os, ag⟩ w
  · cases f with
    | ret u =>
      obtain ⟨v, σ', H', J', r, q⟩ := (hsp)
      exact (⟨v, σ', H', J'.ofTry ok, r, q⟩)
    | next =>
      obtain ⟨σ', H', J', q⟩ := hsp
      exact (wpAny_execs_nil ⟨σ', H', J'.ofTry ok, q⟩)
    | brk =>
      obtain ⟨σ', H', J', q⟩ := hsp
      exact (⟨σ', H', J'.ofTry ok, q⟩)
    | cont =>
      obtain ⟨σ', H', J', q⟩ := hsp
      exact (⟨σ', H', J'.ofTry ok, q⟩)
/-! f(k = v, ..), every parameter by its name, in the parameters' order; what is raised is wished for at the caller's slots -/
def tKwS (sp : Sp) (E : St → XK) (n : Nat) (tk : TA) : TE := fun σ H Q => tk σ H fun zs H2 => zs.length = n ∧ sp zs H2 Q (E σ)
theorem pe_kwS {CX : CXT} {k : Nat} {f : Addr} {fd : FuncData} {ps : List Str} {sp : Sp} {E : St → XK} {x : Str} {p pos : Pos} {kws : List Keyword} {tk : TA}
    (F : FnOk X.prog X.w X.K X.mg X.base CX k f fd ps sp) (hr : Room k X.A) (hg : Gl X x) (hm : X.mg x = some (.ref f)) (hk : PySem.W.keepIn X.K (.ref f) = true)
    (hb : ∀ (s : Shared) (ws : List Value), ws.length = ps.length → BindsTo s fd ⟨[], ps.zip ws⟩ (ps.zip ws)) (hx : ∀ σ, PassesAt CX X σ (E σ)) (hkw : PK X kws tk)
    (hall : (backToKw pos (keywordEach kws X.env)).all (·.1.isSome) = true := by rfl) (hks : (backToKw pos (keywordEach kws X.env)).filterMap (·.1) = ps := by rfl) (hdb : (x == ("__debug__" : Str)) = false := by decide)
    (hpl : ((backTo pos (starEach [] X.env)).any (·.1) || (backToKw pos (keywordEach kws X.env)).any (·.1.isNone)) = false := by rfl) : PE X (.Call (.Name x p) [] kws pos) (tKwS sp E ps.length tk) := by
  refine ⟨fun pins s σ H Q I h => wpAny_Call_Name_kw (ld_glob I hg hm ?_ hdb)⟩
  refine PySem.W.callWith_KW0 (h₀ := X.base) I.ok.mod.kin hk hall (thn (hkw.run pos pins s σ H _ I h) fun ws s2 hh => ?_) hpl
  obtain ⟨zs, H2, I2, rz, ln, q⟩ := hh
  refine ⟨I2.kIn, ?_⟩
  rw [hks]
  refine wpAny_call (codeAny_mono (F.run X.A X.stack s2 H2 ⟨[], ps.zip ws⟩ ws zs Q (E σ) hr I2.env0 (hb s2 ws (rz.length.symm.trans ln)) rz q) fun r s' hq => ?_)
  match r, hq with
  | .ok (.ret u), hq => exact I2.after hq
  | .ok .next, hq => exact False.elim hq
  | .ok .brk, hq => exact False.elim hq
  | .ok .cont, hq => exact False.elim hq
  | .error e, hq => exact hx σ pins H2 s2 e s' I2 hq
end
end L2
/-! sorted of a list of tuples of ints of any lengths (no empty one, or the first one empty) -/
namespace TupSrt
open PySem PyProof.Rows PySem.W SrtO
theorem lexi_asym : ∀ xs ys : List Int, HT.lexLt xs ys = true → HT.lexLt ys xs = false
  | [], [], h => by cases h
  | [], _ :: _, _ => rfl
  | _ :: _, [], h => by cases h
  | x :: xs, y :: ys, h => by
    rw [HT.lexLt_cons] at h ⊢
    by_cases e : x = y
    · rw [if_pos e] at h
      rw [if_pos e.symm]
      exact lexi_asym xs ys h
    · rw [if_neg e] at h
      rw [if_neg (Ne.symm e)]
      have := of_decide_eq_true h
      exact (decide_eq_false (by omega))
theorem lexi_tr : ∀ xs ys zs : List Int, HT.lexLt ys xs = false → HT.lexLt zs ys = false → HT.lexLt zs xs = false
  | [], _, [], _, _ => rfl
  | [], _, _ :: _, _, _ => rfl
  | _ :: _, [], _, h, _ => by (cases h)
  | _ :: _, _ :: _, [], _, h => by cases h
  | x :: us, y :: vs, z :: ws, h1, h2 => by
    rw [HT.lexLt_cons] at h1 h2 ⊢
    by_cases e1 : y = x
    · subst e1
      rw [if_pos rfl] at h1
      by_cases e2 : z = y
      · subst e2
        rw [if_pos rfl] at h2 ⊢
        exact lexi_tr us vs ws h1 h2
      · rw [if_neg e2] at h2 ⊢
        exact h2
    · rw [if_neg e1] at h1
      have a1 := of_decide_eq_false h1
      by_cases e2 : z = y
      · subst e2
        rw [if_neg e1]
        exact h1
      · rw [if_neg e2] at h2
        have a2 := of_decide_eq_false h2
        have e3 : z ≠ x := by omega
        rw [if_neg e3]
        exact (decide_eq_false (by omega))
theorem lex_eq : ∀ xs ys : List Int, HT.lexLt xs ys = false → HT.lexLt ys xs = false → xs = ys
  | [], [], _, _ => rfl
  | [], _ :: _, h, _ => by (cases h)
  | _ :: _, [], _, h => by (cases h)
  | x :: xs, y :: ys, h1, h2 => by
    rw [HT.lexLt_cons] at h1 h2
    by_cases e : x = y
    · subst e
      rw [if_pos rfl] at h1 h2
      rw [lex_eq xs ys h1 h2]
    · rw [if_neg e] at h1
      rw [if_neg (Ne.symm e)] at h2
      have a1 := of_decide_eq_false h1
      have a2 := of_decide_eq_false h2
      omega
theorem lex_swo {α : Type} (k : α → List Int) : Swo fun v u => HT.lexLt (k v) (k u) :=
  ⟨fun x y => lexi_asym (k x) (k y), fun x y z => lexi_tr (k x) (k y) (k z)⟩
/-- v stands at a tuple of the ints ns -/
def IsTI (h : Heap) (v : Value) (ns : List Int) : Prop :=
  ∃ a o its n, v = .ref a ∧ h.get? a = some o ∧ o.cls = .type "tuple" ∧ o.data = .seq its n ∧ IntsAre its.toList ns
theorem IsTI.keep {h h' : Heap} {v : Value} {ns : List Int} (x : IsTI h v ns) (k : ∀ b o, h.get? b = some o → o.cls = .type "tuple" → h'.get? b = some o) : IsTI h' v ns := by
  obtain ⟨a, o, its, n, e, ho, hc, hd, hi⟩ := x
  exact ⟨a, o, its, n, e, k a o ho hc, hc, hd, hi⟩
section
variable {s : Shared} {prog : Program} {w : World} {A : Around} {E : Value → Shared → Prop}
theorem lex_run {b fin : Bool} {Q : Bool → Shared → Prop} : ∀ (ps qs : List Value) (i : Nat) (xs ys : List Int), IntsAre ps xs → IntsAre qs ys → fin = decide (ps.length < qs.length) → Q (HT.lexLt xs ys) s →
    KatLex prog w A b fin Q (ps.zip qs) i s := by
  intro ps
  induction ps with
  | nil =>
    intro qs i xs ys ha hb hf h
    cases ha
    cases hb with
    | nil =>
      subst hf
      exact kat_nil h
    | cons m u hb' =>
      subst hf
      exact kat_nil h
  | cons p ps ih =>
    intro qs i xs ys ha hb hf h
    cases ha with
    | cons n t ha' =>
    cases hb with
    | nil =>
      subst hf
      exact kat_nil h
    | cons m u hb' =>
      have hf' : fin = decide (ps.length < _) := hf.trans (by simp only [List.length_cons, Nat.add_lt_add_iff_right]; rfl)
      rw [HT.lexLt_cons] at h
      refine (kat_cons (wpAny_eqBool_int ?_))
      refine (kat_go (fun e => kat_yes ?_) (fun e => kat_no ?_))
      · have e' : n = m := by simpa using e
        rw [if_pos e'] at h
        exact ih _ _ _ _ ha' hb' hf' h
      · have e' : ¬ n = m := by simpa using e
        rw [if_neg e'] at h
        exact oneLt_any_int h
theorem tups_cmp {vs : List Value} {k : Value → List Int} (hp : ∀ v ∈ vs, IsTI s.heap v (k v)) : Cmp prog w A s (tuples' true) (fun p => p.1 ∈ vs) (lt2 fun v u => HT.lexLt (k v) (k u)) := by
  intro p q hm hm'
  obtain ⟨a, o, its, n, e, ho, hc, hd, hi⟩ := hp _ hm
  obtain ⟨a', o', its', n', e', ho', hc', hd', hi'⟩ := hp _ hm'
  show wpAny (model prog w) A (keyLt' (tuples' true) p.1 q.1) (fun r s' => s' = s ∧ r = HT.lexLt (k p.1) (k q.1)) (fun _ _ => False) s
  rw [e] at hi ⊢
  rw [e'] at hi' ⊢
  exact kat_lt ho hd ho' hd' (lex_run _ _ 0 _ _ hi hi' (by rw [Array.length_toList, Array.length_toList]) ⟨rfl, rfl⟩)
theorem one_cmp {vs : List Value} {k : Value → List Int} (hu : A.units < cLine) (hp : ∀ v ∈ vs, IsTI s.heap v (k v)) : Cmp prog w A s oneType' (fun p => p.1 ∈ vs) (lt2 fun v u => HT.lexLt (k v) (k u)) := by
  intro p q hm hm'
  obtain ⟨a, ⟨c, dd, dt, sl⟩, its, n, e, ho, hc, hd, hi⟩ := hp _ hm
  obtain ⟨a', ⟨c', dd', dt', sl'⟩, its', n', e', ho', hc', hd', hi'⟩ := hp _ hm'
  show wpAny (model prog w) A (keyLt' oneType' p.1 q.1) (fun r s' => s' = s ∧ r = HT.lexLt (k p.1) (k q.1)) (fun _ _ => False) s
  simp only at hc hd hc' hd'
  subst hc hd hc' hd'
  rw [e] at hi ⊢
  rw [e'] at hi' ⊢
  rw [keyLt'_oneType, oneLt'_eq,]
  simp only [if_true]
  refine (wpAny_bind (wpAny_cRoomFor hu ?_))
  refine wpAny_bind (wpAny_callSpecialIfBound?_slot ⟨_, ho, rfl⟩ PySem.F.slot_tuple_lt (call_meets PySem.F.slot_tuple_lt ⟨_, ho, rfl⟩ PySem.F.entry_tuple_lt (PySem.F.args_tuple_lt_2 _ _)
    (HT.tuple_lt_ints a a' its its' n n' dd dd' sl sl' _ _ hi hi') ⟨ho, ho', ?_⟩))
  exact wpAny_truthy_bool ⟨rfl, rfl⟩
/-- what the look at the firsts brings: some of a tuple that is not empty -/
theorem firsts {k : Value → List Int} : ∀ (vs : List Value) {Q : List (Option Value) → Shared → Prop}, (∀ v ∈ vs, IsTI s.heap v (k v)) →
    (∀ fs : List (Option Value), fs.length = vs.length → (∀ v r, vs = v :: r → k v = [] → fs[0]? = some none) → ((∀ v ∈ vs, k v ≠ []) → ∀ f ∈ fs, ∃ x t, f = some (.int x t)) → Q fs s) →
    wpAny (model prog w) A (vs.mapM firstOfTuple') Q E s
  | [], Q, _, h => by
    rw [List.mapM_nil]
    exact wpAny_pure (h [] rfl (fun v r e => by cases e) fun _ f m => by cases m)
  | v :: vs, Q, hp, h => by
    obtain ⟨a, o, its, n, e, ho, hc, hd, hi⟩ := hp v List.mem_cons_self
    rw [List.mapM_cons, e]
    refine wpAny_bind ?_
    rw [kas_first_eq]
    refine wpAny_bind (Looks.here (show Looks (model prog w) s.heap (typeOf (.ref a)) o.cls from (Looks.ld ho).andThen .now) ?_)
    rw [hc, if_neg (by first | decide | simp),]
    refine (wpAny_bind (listItems_at ho hd (wpAny_pure ?_)))
    refine wpAny_bind (firsts vs (fun u hu => hp u (List.mem_cons_of_mem _ hu)) fun fs hl h0 hall => wpAny_pure (h (its[0]? :: fs) (by simp [hl]) (fun v' r' ee z => ?_) fun hn f hf => ?_))
    · cases ee
      rw [z] at hi
      have : its.toList = [] := by cases hi' : its.toList with
        | nil => rfl
        | cons x y => rw [hi'] at hi; cases hi
      have e2 : its[0]? = none := by rw [← Array.getElem?_toList, this]; rfl
      rw [e2]
      rfl
    · rcases List.mem_cons.mp hf with rfl | hf
      · have hk := hn v List.mem_cons_self
        cases hk' : k v with
        | nil => exact absurd hk' hk
        | cons x y =>
          rw [hk'] at hi
          cases hi' : its.toList with
          | nil => rw [hi'] at hi; cases hi
          | cons p q =>
            rw [hi'] at hi
            cases hi with
            | cons x t _ =>
              exact ⟨x, t, by rw [← Array.getElem?_toList, hi']; rfl⟩
      · exact hall (fun u hu => hn u (List.mem_cons_of_mem _ hu)) f hf
theorem tups_sortable {a : Addr} {vs : List Value} {k : Value → List Int} (hu : A.units < cLine) (h0 : 0 < vs.length) (hp : ∀ v ∈ vs, IsTI s.heap v (k v)) (ha : ∀ o, s.heap.get? a = some o → o.cls ≠ .type "tuple")
    (hk : (∀ v ∈ vs, k v ≠ []) ∨ ∃ v r, vs = v :: r ∧ k v = []) : SortableO prog w A s a vs fun v u => HT.lexLt (k v) (k u) := by
  intro h' keep
  have hp' : ∀ v ∈ vs, IsTI h' v (k v) := fun v hm => (hp v hm).keep fun b o e c => keep b o (fun z => by subst z; exact ha o e c) e
  rcases hk with hk | ⟨v, r, ev, ek⟩
  · refine ⟨tuples' true, fun Q E hq => ?_, tups_cmp (s := { s with heap := h' }) hp'⟩
    rw [kat_kind_eq, List.mapM_toArray, map_eq_pure_bind,]
    refine wpAny_bind (wpAny_bind (firsts (s := { s with heap := h' }) (k := k) vs hp' fun fs hl _ hall => wpAny_pure ?_))
    have ha2 := hall hk
    have hsome : (fs.toArray.all fun x => x.isSome) = true := by
      simp only [List.all_toArray, List.all_eq_true]
      intro f hf
      obtain ⟨x, t, e⟩ := ha2 f hf
      rw [e]
      rfl
    rw [if_pos hsome]
    refine (wpAny_bind (wpAny_rule ?_))
    obtain ⟨gs, hg, hgi⟩ : ∃ gs : List Value, fs.toArray.filterMap id = gs.toArray ∧ gs.length = fs.length ∧ ∀ g ∈ gs, ∃ x t, g = .int x t := by
      clear hsome hall
      induction fs with
      | nil => exact ⟨[], rfl, rfl, fun g m => by cases m⟩
      | cons f fs _ =>
        have go : ∀ l : List (Option Value), (∀ f ∈ l, ∃ x t, f = some (.int x t)) → ∃ gs : List Value, l.filterMap id = gs ∧ gs.length = l.length ∧ ∀ g ∈ gs, ∃ x t, g = .int x t := by
          intro l
          induction l with
          | nil => exact fun _ => ⟨[], rfl, rfl, fun g m => by cases m⟩
          | cons f l ih =>
            intro hf
            obtain ⟨x, t, e⟩ := hf f List.mem_cons_self
            obtain ⟨gs, e1, e2, e3⟩ := ih fun f m => hf f (List.mem_cons_of_mem _ m)
            refine ⟨.int x t :: gs, ?_, by simp [e2], fun g m => ?_⟩
            · rw [e, List.filterMap_cons, ← e1]
              rfl
            · rcases List.mem_cons.mp m with rfl | m
              · exact ⟨x, t, rfl⟩
              · exact e3 g m
        obtain ⟨gs, e1, e2, e3⟩ := go (f :: fs) ha2
        exact ⟨gs, by rw [← e1]; simp, e2, e3⟩
    obtain ⟨hgl, hgi⟩ := hgi
    rw [hg, oneTypeOnly'_eq, List.mapM_toArray, map_eq_pure_bind]
    refine wpAny_bind (wpAny_bind (wpAny_bind (kas_mapM (r := .type "int") _ (fun v hv Q' hq => ?_) (wpAny_pure ?_))))
    · obtain ⟨x, t, rfl⟩ := hgi v hv
      exact Looks.here (M := model prog w) (s := { s with heap := h' }) Looks.now hq
    · have h1 : ((List.map (fun _ => Value.type "int") gs).toArray.all fun x => x == Value.type "int") = true := by
        (simp only [List.all_toArray, List.all_map, List.all_eq_true])
        intro _ _
        rfl
      have h2 : (List.map (fun _ => Value.type "int") gs).toArray[0]? = some (Value.type "int") := by
        cases gs with
        | nil => simp at hgl; omega
        | cons _ _ => simp
      rw [h2]
      simp only [h1, if_true]
      refine (wpAny_pure (wpAny_pure ?_))
      have e : (Value.type "int" != Value.type "tuple") = true := by first | decide +kernel | rfl | decide
      simp only [Option.any_some, e]
      exact hq
  · refine ⟨oneType', fun Q E hq => ?_, one_cmp (s := { s with heap := h' }) hu hp'⟩
    rw [kat_kind_eq, List.mapM_toArray, map_eq_pure_bind,]
    refine wpAny_bind (wpAny_bind (firsts (s := { s with heap := h' }) (k := k) vs hp' fun fs hl h0' _ => wpAny_pure ?_))
    have e0 := h0' v r ev ek
    have hnone : ¬ (fs.toArray.all fun x => x.isSome) = true := by
      simp only [List.all_toArray, List.all_eq_true]
      intro z
      cases fs with
      | nil => simp at e0
      | cons f fs =>
        have := z f List.mem_cons_self
        simp at e0
        rw [e0] at this
        cases this
    have hn2 : ¬ ((fs.toArray[0]?.bind id).isSome = true) := by
      have : fs.toArray[0]? = some none := by simpa using e0
      rw [this]
      exact Bool.false_ne_true
    rw [if_neg hnone]
    simp only [hn2, if_false]
    rw [oneTypeOnly'_eq, List.mapM_toArray, map_eq_pure_bind,]
    refine wpAny_bind (wpAny_bind (wpAny_bind (kas_mapM (r := .type "tuple") _ (fun v hv Q' hq => ?_) (wpAny_pure ?_))))
    · obtain ⟨a, o, its, n, e, ho, hc, _⟩ := hp' v hv
      subst e
      refine Looks.here (M := model prog w) (s := { s with heap := h' }) (show Looks (model prog w) h' (typeOf (.ref a)) o.cls from (Looks.ld ho).andThen .now) ?_
      rw [hc]
      exact hq
    · have h1 : ((List.map (fun _ => Value.type "tuple") vs).toArray.all fun x => x == Value.type "tuple") = true := by
        (simp only [List.all_toArray, List.all_map, List.all_eq_true])
        intro _ _
        rfl
      have h2 : (List.map (fun _ => Value.type "tuple") vs).toArray[0]? = some (Value.type "tuple") := by
        rw [ev]
        simp
      rw [h2]
      simp only [h1, if_true]
      exact (wpAny_pure (wpAny_pure hq))
end
end TupSrt
/-! as a rule of the layer -/
namespace L2
open PyProof.Rows PySem.Spec PySem
/-- sorted(xs), xs a list of tuples of ints (k says which), none empty or the first one empty: a new list in the order of tuples -/
def rSortTI (K : PySem.W.Frag) : List V → Hp → VK → Prop := fun vs H Q => ∃ (a : Addr) (xs : List V) (k : V → List Int), vs = [V.ref a] ∧ SqL K H a xs ∧
  (∀ x ∈ xs, ∃ t, x = V.ref t ∧ H t = some (.tup ((k x).map V.int))) ∧ ((∀ x ∈ xs, k x ≠ []) ∨ ∃ x r, xs = x :: r ∧ k x = []) ∧
  ∀ ys p, ys.Perm xs → ys.Pairwise (fun x y => HT.lexLt (k y) (k x) = false) → H p = none → Q (.ref p) (upd H p (.lst ys))
theorem cr_sortTI {X : Cx} (hu : X.A.units + 64 < cLine) : CallR X (.builtin "sorted") (rSortTI X.K) := by
  intro _ s σ H vs us Q I r h
  obtain ⟨a, xs, k, rfl, hs, hx, hk, q⟩ := h
  obtain ⟨its, rv, hl, hz⟩ := (I.list hs)
  obtain ⟨u, rfl, ru⟩ := (vals1 r)
  obtain rfl : u = Value.ref a := (ru)
  obtain ⟨e1, e2⟩ := refs_back rv fun x m => let ⟨t, e, _⟩ := hx x m; ⟨t, e⟩
  have hti : ∀ v ∈ its, TupSrt.IsTI s.heap v (k (backV v)) := fun v hv => by
    obtain ⟨t, rfl⟩ := e2 v hv
    have hm : V.ref t ∈ xs := by
      rw [e1]
      exact (List.mem_map.mpr ⟨_, hv, rfl⟩)
    obtain ⟨t', e, ht⟩ := hx _ hm
    cases e
    obtain ⟨_, its2, r2, o, ho, hc, n, hd⟩ := (I.hok _ _ ht)
    exact ⟨t, o, _, n, rfl, ho, hc, hd, r2.ints⟩
  have hks : (∀ v ∈ its, k (backV v) ≠ []) ∨ ∃ v r, its = v :: r ∧ k (backV v) = [] := by
    rcases hk with hk | ⟨x, r, ex, kx⟩
    · exact .inl fun v hv => hk _ (by rw [e1]; exact List.mem_map.mpr ⟨_, hv, rfl⟩)
    · rw [ex] at e1
      cases its with
      | nil => cases e1
      | cons v r' =>
        rw [List.map_cons] at e1
        refine .inr ⟨v, r', rfl, ?_⟩
        rw [← (List.cons.inj e1).1]
        exact kx
  refine SrtO.sorted_ord (TupSrt.lex_swo fun v => k (backV v)) hl.isList (by rw [← rv.length]; exact hz) (fun h2 h₁ b hb kk => ?_) fun out h1 h2 => ?_
  · refine TupSrt.tups_sortable (s := { s with heap := h₁ }) (by show X.A.units + 1 + 1 < cLine; omega) (by omega) (fun v hm => (hti v hm).keep fun c o e _ => (kk c o e).2) (fun o e => ?_) hks
    have e' : some o = some (seqObj "list" its.toArray 0) := e.symm.trans hb
    cases e'
    intro c
    exact (absurd (Value.type.inj c) (by decide))
  · have h3 : ∀ u ∈ out, ∃ a, u = Value.ref a := (fun u hu => e2 u (h2.perm.mem_iff.mp hu))
    obtain ⟨n, hn⟩ := sortedAll_at s.heap its out.toArray
    have hb : (out.map backV).Perm xs := by
      rw [e1]
      exact h2.perm.map backV
    refine ⟨.ref (s.heap.objs.size + 1), upd H (s.heap.objs.size + 1) (.lst (out.map backV)), I.laid (t' := s.toks) (fun b o e => sortedAll_old e) (Nat.le_succ _) ⟨?_, out, n, vals_back h3, hn⟩, rfl, q _ _ hb ?_ (I.hok.fresh (Nat.le_succ _))⟩
    · rw [hb.length_eq]
      exact hz
    · exact List.pairwise_map.mpr h1
end L2
/-! max of a tuple of ints -/
namespace L2
open PyProof.Rows PySem.Spec PySem
theorem max_tup {prog : Program} {w : World} {A : Around} {E : Value → Shared → Prop} {s : Shared} {l : Addr} {its : List Value} {ns : List Int} {Q : Value → Shared → Prop}
    (hh : A.handled = none) (hl : s.heap.IsTuple l its.toArray) (hi : IntsAre its ns) (hne : 0 < ns.length)
    (h : ∀ h' tk M t, (∀ b o, s.heap.get? b = some o → h'.get? b = some o) → M ∈ ns → (∀ a, a ∈ ns → a ≤ M) → Q (.int M t) { s with heap := h', toks := tk }) :
    wpAny (model prog w) A (PySem.call (.builtin "max") [.ref l]) Q E s := by
  obtain ⟨xs, e⟩ := (hi.allInts.items)
  have hn : numsOf (intItems xs).toList = ns := by (rw [← e]; exact hi.numsOf)
  rw [nums_intItems] at hn
  subst hn
  rw [e] at hl
  have hsz : 0 < xs.size := by (simpa using hne)
  have hlt : l < s.heap.objs.size := hl.elim fun o z => Heap.lt_size z.1
  have hszp : ∀ o, (s.heap.push o).objs.size = s.heap.objs.size + 1 := fun o => Heap.size_push ..
  refine call_max_walk (wpAny_pyIter_tuple hl ?_)
  refine ⟨_, [s.heap.objs.size, l], [s.heap.objs.size], _, _, _, _, rfl, Walks.tuple (A := A.in1) hh _ l (Nat.ne_of_lt hlt) (intItems xs), ⟨⟨_, Heap.get?_push_size _ rfl, rfl, rfl⟩, hl.push _⟩, fun c hc => ?_, by simpa [intItems] using hsz,
    CmpOf.ints_gt (numAt xs) (fun _ _ => intItems_at), fun v h' tk hP hk => ?_⟩
  · show c < (s.heap.push _).objs.size
    rw [hszp]
    rcases (List.mem_cons.mp hc) with rfl | hc
    · exact Nat.lt_succ_self _
    · rcases (List.mem_cons.mp hc) with rfl | hc
      · exact Nat.lt_succ_of_lt hlt
      · cases hc
  · have hP' : (intItems xs)[argBest (fun i j => decide (numAt xs i > numAt xs j)) (xs.size - 1)]? = some v := by simpa [intItems] using hP
    obtain ⟨t, rfl⟩ := intItems_at hP'
    obtain ⟨h1, h2⟩ := (argBest_gt (numAt xs) (xs.size - 1))
    refine h h' tk _ t (fun b o z => hk b o (fun m => ?_) (Heap.get?_push_of_some _ z)) ?_ fun a ha => ?_
    · rcases List.mem_cons.mp m with y | m
      · subst y
        exact absurd (Heap.lt_size z) (Nat.lt_irrefl _)
      · cases m
    · rw [numAt_eq]
      exact PySem.getD_mem (by rw [List.length_map, Array.length_toList]; omega)
    · obtain ⟨j, hj, rfl⟩ := (mem_getD ha)
      rw [List.length_map, Array.length_toList,] at hj
      rw [← numAt_eq]
      exact h2 j (by omega)
def rMaxT (K : PySem.W.Frag) : List V → Hp → VK → Prop := fun vs H Q => ∃ (a : Addr) (ns : List Int), vs = [V.ref a] ∧ SqT K H a (ns.map V.int) ∧ 0 < ns.length ∧ ∀ m, m ∈ ns → (∀ y, y ∈ ns → y ≤ m) → Q (.int m) H
theorem cr_maxT {X : Cx} (hc : X.calm = true) : CallR X (.builtin "max") (rMaxT X.K) := by
  intro _ s σ H vs us Q I r h
  obtain ⟨a, ns, rfl, hs, hne, q⟩ := (h)
  obtain ⟨u, rfl, ru⟩ := (vals1 r)
  obtain rfl : u = Value.ref a := (ru)
  obtain ⟨its, rv, hl, _⟩ := I.tuple hs
  exact max_tup (I.ok.hd hc) hl rv.ints hne fun h' tk M t k m1 m2 => ⟨.int M, H, I.kept k, ⟨t, rfl⟩, q M m1 m2⟩
/-! sorted of a tuple of ints -/
theorem sorted_tup {prog : Program} {w : World} {A : Around} {E : Value → Shared → Prop} {s : Shared} {l : Addr} {its : List Value} {ns : List Int} {Q : Value → Shared → Prop}
    (hl : s.heap.IsTuple l its.toArray) (hi : IntsAre its ns) (hz : its.length ≤ sizeLine)
    (h : ∀ (h₁ h' : Heap) (d : Addr) (out : List Value) (ns' : List Int), (∀ b o, s.heap.get? b = some o → h₁.get? b = some o) → (∀ b o, h₁.get? b = some o → h'.get? b = some o) → h₁.objs.size ≤ d → IntsAre out ns' → ns'.Perm ns → ns'.Pairwise (· ≤ ·) → (∃ n, h'.get? d = some (seqObj "list" out.toArray n)) → Q (.ref d) { s with heap := h' }) :
    wpAny (model prog w) A (PySem.call (.builtin "sorted") [.ref l]) Q E s := by
  obtain ⟨o, ho, hc, n, hd⟩ := (id hl)
  refine Calls.call_function_entry kind_sorted plain_sorted entry_sorted (args_sorted1 _) (?_)
  unfold Builtin.«sorted»
  refine (wpAny_bind (m := checkCount "sorted" 1 1 _) (wpAny_pure ?_))
  refine wpAny_bind (wpAny_collect_seq l (.inr rfl) ho hc hd (fun h₁ k₁ => ?_) hz)
  refine (wpAny_bind (wpAny_newList ?_ hz))
  have hoL : (h₁.push (seqObj "list" its.toArray 0)).get? h₁.objs.size = some (seqObj "list" its.toArray 0) := Heap.get?_push_size _ rfl
  refine wpAny_bind (wpAny_holding (wpAny_call_entry slot_list_sort ⟨_, hoL, rfl⟩ entry_list_sort
    (SrtO.list_sort_ord SrtO.swo_int hoL hz (fun h2 => SrtO.ints_sortable hi h2) fun out hs hb => ⟨_, rfl, ?_⟩) (args_list_sort _)))
  refine (wpAny_pure ⟨_, rfl, ?_⟩)
  obtain ⟨k1, k2, k3⟩ := SrtO.ints_out hi hs hb
  refine h h₁ _ _ out _ k₁ (fun b o e => ?_) (Nat.le_refl _) k1 k2 k3 (sortedHeap_at (vs := its) (out := out.toArray) hoL)
  rw [sortedHeap_old (Nat.ne_of_lt (Heap.lt_size e)) (by rw [Heap.size_push]; exact Nat.lt_succ_of_lt (Heap.lt_size e))]
  exact (Heap.get?_push_of_some _ e)
def rSortedTu (K : PySem.W.Frag) : List V → Hp → VK → Prop := fun vs H Q => ∃ (a : Addr) (ns : List Int), vs = [V.ref a] ∧ SqT K H a (ns.map V.int) ∧ ∀ (ns' : List Int) (p : Addr), ns'.Perm ns → ns'.Pairwise (· ≤ ·) → H p = none → Q (.ref p) (upd H p (.lst (ns'.map V.int)))
theorem cr_sortedTu {X : Cx} : CallR X (.builtin "sorted") (rSortedTu X.K) := by
  intro _ s σ H vs us Q I r h
  obtain ⟨a, ns, rfl, hs, q⟩ := (h)
  obtain ⟨u, rfl, ru⟩ := (vals1 r)
  obtain rfl : u = Value.ref a := (ru)
  obtain ⟨its, rv, hl, hz⟩ := I.tuple hs
  refine sorted_tup hl rv.ints (by rw [← rv.length]; exact hz) fun h₁ h' d out ns' k₁ kp hd h1 h2 h3 ⟨n, hn⟩ => ?_
  have hlen : ((ns'.map V.int).length ≤ sizeLine) := by
    rw [List.length_map, h2.length_eq]
    rw [List.length_map] at hz
    exact hz
  exact ⟨.ref d, upd H d (.lst (ns'.map V.int)), (I.kept (t' := s.toks) k₁).laid (t' := s.toks) kp hd ⟨hlen, out, n, vals_of_ints h1, hn⟩, rfl, q ns' d h2 h3 ((I.kept (t' := s.toks) k₁).hok.fresh hd)⟩
end L2
/-! sorted of a tuple of tuples of ints -/
namespace L2
open PyProof.Rows PySem.Spec PySem
theorem sorted_tupT {prog : Program} {w : World} {A : Around} {E : Value → Shared → Prop} {s : Shared} {l : Addr} {its : List Value} {k : Value → List Int} {Q : Value → Shared → Prop}
    (hu : A.units + 64 < cLine) (hl : s.heap.IsTuple l its.toArray) (hti : ∀ v ∈ its, TupSrt.IsTI s.heap v (k v)) (hks : (∀ v ∈ its, k v ≠ []) ∨ ∃ v r, its = v :: r ∧ k v = []) (hz : its.length ≤ sizeLine)
    (h : ∀ (h₁ h' : Heap) (d : Addr) (out : List Value), (∀ b o, s.heap.get? b = some o → h₁.get? b = some o) → (∀ b o, h₁.get? b = some o → h'.get? b = some o) → h₁.objs.size ≤ d → out.Perm its → out.Pairwise (fun x y => HT.lexLt (k y) (k x) = false) → (∃ n, h'.get? d = some (seqObj "list" out.toArray n)) → Q (.ref d) { s with heap := h' }) :
    wpAny (model prog w) A (PySem.call (.builtin "sorted") [.ref l]) Q E s := by
  obtain ⟨o, ho, hc, n, hd⟩ := (id hl)
  refine Calls.call_function_entry kind_sorted plain_sorted entry_sorted (args_sorted1 _) (?_)
  unfold Builtin.«sorted»
  refine (wpAny_bind (m := checkCount "sorted" 1 1 _) (wpAny_pure ?_))
  refine wpAny_bind (wpAny_collect_seq l (.inr rfl) ho hc hd (fun h₁ k₁ => ?_) hz)
  refine (wpAny_bind (wpAny_newList ?_ hz))
  have at2 : (h₁.push (seqObj "list" its.toArray 0)).get? h₁.objs.size = some (seqObj "list" its.toArray 0) := Heap.get?_push_size _ rfl
  refine wpAny_bind (wpAny_holding (wpAny_call_entry slot_list_sort ⟨_, at2, rfl⟩ entry_list_sort
    (SrtO.list_sort_ord (TupSrt.lex_swo k) at2 hz (fun h2 => ?_) fun out hs hb => ⟨_, rfl, ?_⟩) (args_list_sort _)))
  · refine TupSrt.tups_sortable (s := { s with heap := h₁.push (seqObj "list" its.toArray 0) }) (by show A.units + 1 + 1 < cLine; omega) (by omega) (fun v hm => (hti v hm).keep fun c o e _ => Heap.get?_push_of_some _ (k₁ c o e)) (fun o e => ?_) hks
    have e' : some o = some (seqObj "list" its.toArray 0) := e.symm.trans at2
    cases e'
    intro c
    exact (absurd (Value.type.inj c) (by decide))
  · refine wpAny_pure ⟨_, rfl, ?_⟩
    refine h h₁ _ _ out k₁ (fun b o e => ?_) (Nat.le_refl _) hb.perm hs (sortedHeap_at (vs := its) (out := out.toArray) at2)
    rw [sortedHeap_old (Nat.ne_of_lt (Heap.lt_size e)) (by rw [Heap.size_push]; exact Nat.lt_succ_of_lt (Heap.lt_size e))]
    exact (Heap.get?_push_of_some _ e)
/-- sorted(t), t a tuple of tuples of ints (k says which), none empty or the first one empty -/
def rSortTT (K : PySem.W.Frag) : List V → Hp → VK → Prop := fun vs H Q => ∃ (a : Addr) (xs : List V) (k : V → List Int), vs = [V.ref a] ∧ SqT K H a xs ∧
  (∀ x ∈ xs, ∃ t, x = V.ref t ∧ H t = some (.tup ((k x).map V.int))) ∧ ((∀ x ∈ xs, k x ≠ []) ∨ ∃ x r, xs = x :: r ∧ k x = []) ∧
  ∀ ys p, ys.Perm xs → ys.Pairwise (fun x y => HT.lexLt (k y) (k x) = false) → H p = none → Q (.ref p) (upd H p (.lst ys))
theorem cr_sortTT {X : Cx} (hu : X.A.units + 64 < cLine) : CallR X (.builtin "sorted") (rSortTT X.K) := by
  intro _ s σ H vs us Q I r h
  obtain ⟨a, xs, k, rfl, hs, hx, hk, q⟩ := h
  obtain ⟨its, rv, hl, hz⟩ := I.tuple hs
  obtain ⟨u, rfl, ru⟩ := (vals1 r)
  obtain rfl : u = Value.ref a := (ru)
  obtain ⟨e1, e2⟩ := refs_back rv fun x m => let ⟨t, e, _⟩ := hx x m; ⟨t, e⟩
  have hti : ∀ v ∈ its, TupSrt.IsTI s.heap v (k (backV v)) := fun v hv => by
    obtain ⟨t, rfl⟩ := e2 v hv
    obtain ⟨t', e, ht⟩ := hx (V.ref t) (by rw [e1]; exact List.mem_map.mpr ⟨_, hv, rfl⟩)
    cases e
    obtain ⟨_, its2, r2, o, ho, hc, n, hd⟩ := (I.hok _ _ ht)
    exact ⟨t, o, _, n, rfl, ho, hc, hd, r2.ints⟩
  have hks : (∀ v ∈ its, k (backV v) ≠ []) ∨ ∃ v r, its = v :: r ∧ k (backV v) = [] := by
    rcases hk with hk | ⟨x, r, ex, kx⟩
    · exact .inl fun v hv => hk _ (by rw [e1]; exact List.mem_map.mpr ⟨_, hv, rfl⟩)
    · rw [ex] at e1
      cases its with
      | nil => cases e1
      | cons v r' =>
        rw [List.map_cons] at e1
        exact .inr ⟨v, r', rfl, by rw [← (List.cons.inj e1).1]; exact kx⟩
  refine sorted_tupT (k := fun v => k (backV v)) hu hl hti hks (by rw [← rv.length]; exact hz) fun h₁ h' d out k₁ kp hd h2 h1 ⟨n, hn⟩ => ?_
  have h3 : ∀ u ∈ out, ∃ a, u = Value.ref a := fun u hu => e2 u (h2.mem_iff.mp hu)
  have hb : (out.map backV).Perm xs := by
    rw [e1]
    exact h2.map backV
  refine ⟨.ref d, upd H d (.lst (out.map backV)), (I.kept (t' := s.toks) k₁).laid (t' := s.toks) kp hd ⟨?_, out, n, vals_back h3, hn⟩, rfl, q _ d hb ?_ ((I.kept (t' := s.toks) k₁).hok.fresh hd)⟩
  · rw [hb.length_eq]
    exact hz
  · exact List.pairwise_map.mpr h1
end L2
/-! repr of data where no repr is under way; a law's def run at its one caller -/
namespace L2
open PyProof.Rows PySem.Spec PySem
/-- repr(x), x a list or tuple of data without dicts -/
def rRepr (K : PySem.W.Frag) : List V → Hp → VK → Prop := fun vs H Q => ∃ (p : Addr) (d : PyData), vs = [.ref p] ∧ Dp K H (.ref p) d ∧ d.showable = true ∧ d.hasDict = false ∧ d.depth ≤ 60 ∧ d.shown.length ≤ sizeLine ∧ Q (.str d.shown) H
theorem cr_repr {X : Cx} (hg : X.A.guards = some []) (hu : X.A.units + 64 < cLine) : CallR X (.builtin "repr") (rRepr X.K) := by
  intro _ s σ H vs us Q I r h
  obtain ⟨p, d, rfl, hd, h1, h2, h3, h4, q⟩ := h
  obtain ⟨u, rfl, ru⟩ := (vals1 r)
  obtain ⟨as, rd⟩ := Dp.reads I d (.ref p) u hd ru
  obtain rfl : u = Value.ref p := (ru)
  exact repr_of_reads' rd h1 (PyData.noDict_hsm h2) hg (by omega) (fun _ _ e => e) (fun h' t tk k => ⟨.str d.shown, H, I.kept k, ⟨t, rfl⟩, q⟩) h4
section
variable {CX : CXT} {P : Program} {w : World} {K : PySem.W.Frag} {mg mb : Str → Option Value} {base : Heap} {k : Nat} {f : Addr} {name qual : Str} {params : Arguments} {body : List Stmt} {scope : Scope} {kV doc pm cdv ct oc : Value} {an od : Option Addr} {osl : Array (Option Value)}
/-- a def called once, from around A: its body's reading at that very call -/
theorem fn_once {N ps : List Str} {A : Around} {outer : List Env} {s : Shared} {H : Hp} {args : Args} {us : List Value} {vs : List V} {Q : VK} {E : XK}
    (lk : K.lookup f = some ⟨oc, od, .func (PySem.W.fnOf name qual params body scope .none kV doc pm an cdv ct), osl⟩) (hcd : PySem.W.codeIn K cdv qual = true) (S : FnScope N ps scope)
    (hr : Room (k + 1) A) (e0 : Env0 P w K mg base A outer s H) (hb : BindsTo s (PySem.W.fnOf name qual params body scope .none kV doc pm an cdv ct) args (ps.zip us)) (r : Vals vs us) (hl : vs.length = ps.length)
    (hbody : ∃ t, PSs (cxOf CX P w K mg base N qual scope f cdv A outer s H E) body t ∧ t { nx := fun _ H' => Q .non H', rt := Q } (start N vs) H) :
    (codeAny (model P w) A (.call (.ref f) args) (CR CX outer P w H s Q E) s) := by
  have old : ∀ b o, base.get? b = some o → s.heap.get? b = some o := fun b o e => (e0.bs b o e).1
  have KX : K.In s.heap := e0.mod.kin.keeps old
  refine (codeAny_call_function hr.depth (KX _ _ lk) rfl S.co S.gen rfl (PySem.W.codeRec_of KX hcd) (hb _ _ _ _ ?_))
  refine wpAny_newFunctionEnv_cells S.kind (fun y hy => ?_) fun env he s1 x => ?_
  · rcases S.par y.1 (List.of_mem_zip hy).1 with q | q
    · exact .inl q
    · exact (.inr ⟨q, PySem.W.cellsFrom_some _ _ _ (.inl q)⟩)
  subst he
  refine ⟨(e0.mod.nolimit.keeps old).keeps x.toInCall.keep, codeAny_func ?_⟩
  obtain ⟨t, ht, hq⟩ := hbody
  refine wpAny_mono (ht.run [] s1 (start N vs) H _ (inv_start S hr.hd e0 hl r x) hq) (fun fl s' hs => ?_) fun e s' hs => hs
  match fl, hs with
  | .ret u, hs =>
    obtain ⟨v, σ', H', J, rv, q⟩ := (hs)
    exact ⟨v, H', J.os, J.bare, J.base, J.hok, rv, q⟩
  | .next, hs =>
    obtain ⟨σ', H', J, q⟩ := hs
    exact ⟨.non, H', J.os, J.bare, J.base, J.hok, rfl, q⟩
  | .brk, hs => exact hs.elim fun _ z => z.elim fun _ z => z.2.elim
  | .cont, hs => exact hs.elim fun _ z => z.elim fun _ z => z.2.elim
/-- the law's call, from the one caller; the script at a is locked or one of the written part's objects -/
theorem law_once {fa a : Addr} {s₁ : Shared} {vs : List Value} {ns : List Int}
    (hns : s₁.heap.Ns mainGlobals mg) (KX : K.In s₁.heap) (hb : s₁.heap.Ns builtinsNs mb) (hbb : ∀ x : Str, x ≠ "__name__" → mb x = bootBuiltins x) (hlim : s₁.heap.NoLimit) (hg : s₁.gens = #[])
    (ha : s₁.heap.get? a = some { cls := .type "list", data := .seq vs.toArray }) (hi : IntsAre vs ns) (hl : ns.length ≤ sizeLine)
    (F : ∀ (base : Heap) (H : Hp), K.In base → base.Ns mainGlobals mg → Only H → SqL K H a (ns.map V.int) → Env0 P w K mg base callerA [] s₁ H →
      codeAny (model P w) callerA (.call (.ref fa) ⟨[.ref a], []⟩) (CR CX0 [] P w H s₁ (fun v _ => v = .bl true) E0) s₁) :
    (codeAny (model P w) callerA (.call (.ref fa) ⟨[.ref a], []⟩) (fun r s' => r = .ok (.ret (.bool true)) ∧ OldK s₁.heap s'.heap ∧ s'.os = s₁.os ∧ AllBare s'.gens) s₁) := by
  have rv := vals_ints hi
  suffices ∃ H : Hp, Only H ∧ SqL K H a (ns.map V.int) ∧ HOk P w H s₁.heap ∧ (∀ b, H b ≠ none → b = a ∧ K.lookup a = none) by
    obtain ⟨H, hO, hS, hok, hA⟩ := this
    have clear : ∀ {b : Addr} {o : Obj}, s₁.heap.get? b = some o → (b = a → K.lookup a = none → False) → (hidT s₁.heap H).get? b = some o := fun {b o} e n => hidT_get e (by
      cases q : H b with
      | none => rfl
      | some u =>
        obtain ⟨z1, z2⟩ := hA b (by rw [q]; exact fun z => nomatch z)
        exact (n z1 z2).elim)
    have dicts : ∀ {b : Addr} {m : Str → Option Value}, s₁.heap.Ns b m → (hidT s₁.heap H).Ns b m := fun {b m} ⟨o, es, ep, e, d, r⟩ => ⟨o, es, ep, clear e (fun z _ => by
      subst z
      rw [ha] at e
      cases e
      cases d), d, r⟩
    have hKb : K.In (hidT s₁.heap H) := fun b o e => clear (KX b o e) fun z y => by
      subst z
      rw [y] at e
      cases e
    have hM : Mod K mg (hidT s₁.heap H) := ⟨hKb, dicts hns, ⟨mb, dicts hb, hbb⟩, hlim.elim fun mc z => ⟨mc, dicts z.1, z.2⟩⟩
    refine codeAny_mono (F _ H hKb (dicts hns) hO hS ⟨rfl, hM, fun b o e => of_hidT e, Nat.le_of_eq (hidT_size _ _), trivial, (fun b m => by cases m), hok, .of_eq hg⟩) fun r s' h => ?_
    match r, h with
    | .error e, h => exact False.elim h
    | .ok .next, h => exact False.elim h
    | .ok .brk, h => exact False.elim h
    | .ok .cont, h => exact False.elim h
    | .ok (.ret u), h =>
      obtain ⟨v, H', os, bare, un, hok', r', q⟩ := (h)
      obtain rfl : v = .bl true := q
      obtain rfl : u = Value.bool true := (r')
      refine (⟨rfl, OldK.of_keep fun b o e => ?_, os, bare⟩)
      cases q : H b with
      | none => exact un.keep b o e q (by intro m; cases m) (by intro m; cases m)
      | some y =>
        rcases (hO b) with z | ⟨ob, xs, z⟩
        · rw [q] at z
          cases z
        · have e1 := (hok b _ z).1
          rw [e] at e1
          cases e1
          exact (hok' b _ (un.frzs b o _ z)).1
  cases hk : K.lookup a with
  | some o =>
    have e := KX a o hk
    rw [ha] at e
    cases e
    exact ⟨fun _ => none, fun _ => .inl rfl, .inr ⟨_, vs.toArray, _, hk, rfl, rfl, rfl, by rw [List.size_toArray, hi.length]; exact hl, by simpa using rv⟩, fun b u z => (nomatch z), fun b z => absurd rfl z⟩
  | none =>
    let L : HO := .frz { cls := .type "list", data := .seq vs.toArray } (.lst (ns.map V.int))
    have at1 : ∀ b y, upd (fun _ => none) a L b = some y → b = a ∧ y = L := fun b y z => by
      by_cases e : b = a
      · subst e
        rw [upd_same] at z
        exact ⟨rfl, (Option.some.inj z).symm⟩
      · rw [upd_ne e] at z
        cases z
    refine ⟨upd (fun _ => none) a L, fun b => ?_, .inl (.inr ⟨_, upd_same⟩), fun b y z => ?_, fun b z => ?_⟩
    · by_cases e : b = a
      · subst e
        exact .inr ⟨_, _, upd_same⟩
      · exact .inl (upd_ne e)
    · obtain ⟨rfl, rfl⟩ := at1 b y z
      exact (⟨ha, by rw [List.length_map]; exact hl, vs, _, rv, ha⟩)
    · cases q : upd (fun _ => none) a L b with
      | none => exact absurd q z
      | some y => exact ⟨(at1 b y q).1, rfl⟩
end
/-- the goal that k_head leaves, from the law's def at its one call -/
theorem walk_once {l : PySem.W.OpenLaw} {n : Nat} {q : Program} {loose : List Str} {XP : (Str → Option Value) → Heap → Prop} {YP : World → Heap → Prop} {d : DefRec} {K : Params → PySem.W.Frag}
    (hn : l.most = some n) (hn2 : n ≤ sizeLine) (hdf : d.params.defaults = []) (hY : ∀ (w : World) (h : Heap), YP w h → (K w.params).In h)
    (F : ∀ (w : World) (mg : Str → Option Value) (fa : Addr) (h : Heap), (K w.params).In h → h.Ns mainGlobals mg → mg d.name = some (.ref fa) → ∀ (base : Heap) (H : Hp) (a : Addr) (ns : List Int) (s₁ : Shared), (K w.params).In base → base.Ns mainGlobals mg → Only H → ns.length ≤ n → SqL (K w.params) H a (ns.map V.int) → Env0 l.prog w (K w.params) mg base callerA [] s₁ H →
        codeAny (model l.prog w) callerA (.call (.ref fa) ⟨[.ref a], []⟩) (CR CX0 [] l.prog w H s₁ (fun v _ => v = .bl true) E0) s₁) :
    (PySem.W.WalkO q loose XP YP l.row.toRowW d [] (fun f vs => PySem.call f vs)) := by
  refine (Att.attach_call hn hdf fun w s₀ s₁ mg mb fa o pm cd doc a vs ns G Y ho hd hcd hmg hobj hints hlen hg => ?_)
  exact law_once G.T.g (hY w _ Y) G.T.b G.T.builtins G.T.nolimit hg hobj hints (Nat.le_trans hlen hn2) fun base H hk hb hO hS e0 => F w mg fa _ (hY w _ Y) G.T.g hmg base H a ns s₁ hk hb hO hlen hS e0
end L2
/-! the mathematics: parts of counts, lots, coarser lots, what divides them best -/
namespace M45
open List
/-! ### sorted lists -/
def srt (l : List Nat) : List Nat := l.mergeSort fun a b => decide (a ≤ b)
theorem srt_perm (l : List Nat) : (srt l).Perm l := List.mergeSort_perm l _
theorem srt_pw (l : List Nat) : (srt l).Pairwise (· ≤ ·) := by
  have h := List.pairwise_mergeSort (le := fun a b : Nat => decide (a ≤ b)) (fun a b c h1 h2 => by simp at *; omega) (fun a b => by simp; omega) l
  exact h.imp fun h => of_decide_eq_true h
theorem srt_of {l m : List Nat} (h : l.Perm m) (hp : l.Pairwise (· ≤ ·)) : l = srt m :=
  List.Perm.eq_of_pairwise (fun a b _ _ h1 h2 => Nat.le_antisymm h1 h2) hp (srt_pw m) (h.trans (srt_perm m).symm)
theorem srt_congr {l m : List Nat} (h : l.Perm m) : srt l = srt m := srt_of ((srt_perm l).trans h) (srt_pw l)
theorem srt_sorted {l : List Nat} (h : l.Pairwise (· ≤ ·)) : srt l = l := (srt_of (List.Perm.refl l) h).symm
abbrev iN (l : List Nat) : List Int := l.map fun (n : Nat) => (n : Int)
theorem iN_len (l : List Nat) : (iN l).length = l.length := List.length_map ..
theorem iN_inj : ∀ {l m : List Nat}, iN l = iN m → l = m
  | [], [], _ => rfl
  | [], _ :: _, h => by cases h
  | _ :: _, [], h => by cases h
  | a :: l, b :: m, h => by
    obtain ⟨h1, h2⟩ := List.cons.inj h
    rw [iN_inj h2, Int.ofNat.inj h1]
theorem iN_mem {l : List Nat} {z : Int} : z ∈ iN l ↔ ∃ n ∈ l, (n : Int) = z := List.mem_map
/-- a list of ints that is a sorted rearrangement of numbers -/
theorem iN_of_perm {l : List Nat} {zs : List Int} (h : zs.Perm (iN l)) : ∃ m : List Nat, zs = iN m := by
  refine ⟨zs.map Int.toNat, ?_⟩
  have : ∀ ys : List Int, (∀ y ∈ ys, 0 ≤ y) → ys = iN (ys.map Int.toNat) := by
    intro ys
    induction ys with
    | nil => intro _; rfl
    | cons y ys ih =>
      intro hy
      show y :: ys = ((y.toNat : Nat) : Int) :: iN (ys.map Int.toNat)
      rw [← ih fun z m => hy z (List.mem_cons_of_mem _ m), Int.toNat_of_nonneg (hy y List.mem_cons_self)]
  refine this zs fun y hy => ?_
  obtain ⟨n, _, rfl⟩ := iN_mem.mp (h.mem_iff.mp hy)
  omega
theorem iN_perm {l m : List Nat} (h : (iN l).Perm (iN m)) : l.Perm m := by
  have h2 := h.map Int.toNat
  have e : ∀ k : List Nat, (iN k).map Int.toNat = k := fun k => by
    rw [List.map_map]
    refine (List.map_congr_left fun a _ => ?_).trans (List.map_id k)
    show ((a : Int)).toNat = a
    omega
  rwa [e, e] at h2
theorem srt_int {l : List Nat} {zs : List Int} (h : zs.Perm (iN l)) (hp : zs.Pairwise (· ≤ ·)) : zs = iN (srt l) := by
  obtain ⟨m, rfl⟩ := iN_of_perm h
  rw [srt_of (iN_perm h) ((List.pairwise_map.mp hp).imp fun h => by omega)]
/-! ### parts of counts -/
def ends (o : Nat) (c : Int) : List Nat := [Nat.gcd o c.natAbs, Nat.gcd o (c - 1).natAbs]
def pend (f : List Nat) (c : Int) : List Nat := f.flatMap fun o => ends o c
def keep (o : Nat) : Bool := decide (o = 0) || decide (2 < o)
def step1 (f : List Nat) (c : Int) : List Nat := (pend f c).filter keep
def stepS (f : List Nat) (c : Int) : List Nat := srt (step1 f c)
/-- what the program reckons; what the law reckons -/
def parts (cs : List Int) : List Nat := cs.foldl stepS [0]
def partsL (cs : List Int) : List Nat := srt (cs.foldl step1 [0])
def lotOf (cs : List Int) : Option (List Nat) := if 0 ∈ parts cs then none else some (parts cs)
theorem step1_perm {f g : List Nat} (h : f.Perm g) (c : Int) : (step1 f c).Perm (step1 g c) := (h.flatMap_right _).filter _
theorem foldl_perm : ∀ (cs : List Int) {f g : List Nat}, f.Perm g → (cs.foldl stepS f).Perm (cs.foldl step1 g)
  | [], _, _, h => h
  | c :: cs, _, _, h => foldl_perm cs ((srt_perm _).trans (step1_perm h c))
theorem foldl_sorted : ∀ (cs : List Int) {f : List Nat}, f.Pairwise (· ≤ ·) → (cs.foldl stepS f).Pairwise (· ≤ ·)
  | [], _, h => h
  | c :: cs, _, _ => foldl_sorted cs (srt_pw _)
theorem parts_sorted (cs : List Int) : (parts cs).Pairwise (· ≤ ·) := foldl_sorted cs (List.pairwise_singleton _ _)
theorem partsL_eq (cs : List Int) : partsL cs = parts cs := (srt_of (foldl_perm cs (List.Perm.refl [0])) (parts_sorted cs)).symm
/-- without the sieve on the way -/
def alls (cs : List Int) : List Nat := cs.foldl pend [0]
theorem pend_filter (f : List Nat) (c : Int) : (pend f c).filter keep = (pend (f.filter keep) c).filter keep := by
  unfold pend
  induction f with
  | nil => rfl
  | cons o f ih =>
    rw [List.flatMap_cons, List.filter_append, ih, List.filter_cons]
    by_cases h : keep o = true
    · rw [if_pos h, List.flatMap_cons, List.filter_append]
    · rw [if_neg h]
      have ho : o = 1 ∨ o = 2 := by
        unfold keep at h
        simp at h
        omega
      have small : ∀ x, keep (Nat.gcd o x) = false := fun x => by
        have hd : Nat.gcd o x ∣ o := Nat.gcd_dvd_left o x
        have hle : Nat.gcd o x ≤ 2 := Nat.le_trans (Nat.le_of_dvd (by omega) hd) (by omega)
        have hpos : 0 < Nat.gcd o x := Nat.gcd_pos_of_pos_left _ (by omega)
        unfold keep
        simp
        omega
      have : (ends o c).filter keep = [] := by
        unfold ends
        rw [List.filter_cons, small, List.filter_cons, small]
        rfl
      rw [this, List.nil_append]
theorem foldl_alls : ∀ (cs : List Int) (f : List Nat), (∀ o ∈ f, keep o = true) → cs.foldl step1 f = (cs.foldl pend f).filter keep := by
  have gen : ∀ (cs : List Int) (f g : List Nat), f.filter keep = g.filter keep → (cs.foldl pend f).filter keep = (cs.foldl pend g).filter keep := by
    intro cs
    induction cs with
    | nil => intro f g h; exact h
    | cons c cs ih =>
      intro f g h
      refine ih _ _ ?_
      rw [pend_filter f, pend_filter g, h]
  intro cs
  induction cs with
  | nil =>
    intro f h
    exact (List.filter_eq_self.mpr h).symm
  | cons c cs ih =>
    intro f h
    show cs.foldl step1 (step1 f c) = (cs.foldl pend (pend f c)).filter keep
    rw [ih (step1 f c) fun o ho => (List.mem_filter.mp ho).2]
    refine gen cs _ _ ?_
    unfold step1
    rw [List.filter_filter]
    simp
theorem pend_perm {f g : List Nat} (h : f.Perm g) (c : Int) : (pend f c).Perm (pend g c) := h.flatMap_right _
theorem pend_swap (f : List Nat) (c d : Int) : (pend (pend f c) d).Perm (pend (pend f d) c) := by
  unfold pend
  induction f with
  | nil => exact List.Perm.refl _
  | cons o f ih =>
    rw [List.flatMap_cons, List.flatMap_append, List.flatMap_cons, List.flatMap_append]
    refine List.Perm.append ?_ ih
    have sw : ∀ x y, Nat.gcd (Nat.gcd o x) y = Nat.gcd (Nat.gcd o y) x := fun x y => by rw [Nat.gcd_assoc, Nat.gcd_comm x y, ← Nat.gcd_assoc]
    show [Nat.gcd (Nat.gcd o c.natAbs) d.natAbs, Nat.gcd (Nat.gcd o c.natAbs) (d - 1).natAbs, Nat.gcd (Nat.gcd o (c - 1).natAbs) d.natAbs, Nat.gcd (Nat.gcd o (c - 1).natAbs) (d - 1).natAbs].Perm
      [Nat.gcd (Nat.gcd o d.natAbs) c.natAbs, Nat.gcd (Nat.gcd o d.natAbs) (c - 1).natAbs, Nat.gcd (Nat.gcd o (d - 1).natAbs) c.natAbs, Nat.gcd (Nat.gcd o (d - 1).natAbs) (c - 1).natAbs]
    rw [sw c.natAbs d.natAbs, sw c.natAbs (d - 1).natAbs, sw (c - 1).natAbs d.natAbs, sw (c - 1).natAbs (d - 1).natAbs]
    exact List.Perm.cons _ (List.Perm.swap _ _ _)
theorem foldl_pend_perm : ∀ (cs : List Int) {f g : List Nat}, f.Perm g → (cs.foldl pend f).Perm (cs.foldl pend g)
  | [], _, _, h => h
  | c :: cs, _, _, h => foldl_pend_perm cs (pend_perm h c)
theorem alls_perm {cs ds : List Int} (h : cs.Perm ds) : ∀ f, (cs.foldl pend f).Perm (ds.foldl pend f) := by
  induction h with
  | nil => exact fun f => List.Perm.refl _
  | cons c _ ih => exact fun f => ih _
  | swap c d l => exact fun f => foldl_pend_perm l (pend_swap f d c)
  | trans _ _ ih1 ih2 => exact fun f => (ih1 f).trans (ih2 f)
theorem parts_perm {cs ds : List Int} (h : cs.Perm ds) : parts cs = parts ds := by
  rw [← partsL_eq, ← partsL_eq]
  unfold partsL
  rw [foldl_alls cs [0] (by decide), foldl_alls ds [0] (by decide)]
  exact srt_congr ((alls_perm h [0]).filter _)
theorem parts_snoc (cs : List Int) (c : Int) : parts (cs ++ [c]) = stepS (parts cs) c := by
  unfold parts
  rw [List.foldl_append]
  rfl
/-! ### parts have no common divisors -/
abbrev Cop (l : List Nat) : Prop := l.Pairwise Nat.Coprime
theorem gcd_next (c : Int) : Nat.Coprime c.natAbs (c - 1).natAbs := by
  have h1 : ((Nat.gcd c.natAbs (c - 1).natAbs : Nat) : Int) ∣ c := Int.ofNat_dvd_left.mpr (Nat.gcd_dvd_left _ _)
  have h2 : ((Nat.gcd c.natAbs (c - 1).natAbs : Nat) : Int) ∣ c - 1 := Int.ofNat_dvd_left.mpr (Nat.gcd_dvd_right _ _)
  have h3 := Int.dvd_sub h1 h2
  have e : c - (c - 1) = 1 := by omega
  rw [e] at h3
  have h4 := Int.ofNat_dvd_left.mp h3
  exact Nat.dvd_one.mp h4
theorem cop_of_dvd {a b c d : Nat} (h : Nat.Coprime a b) (h1 : c ∣ a) (h2 : d ∣ b) : Nat.Coprime c d := Nat.Coprime.coprime_dvd_left h1 (Nat.Coprime.coprime_dvd_right h2 h)
theorem pend_cop {f : List Nat} (h : Cop f) (c : Int) : Cop (pend f c) := by
  refine List.pairwise_flatMap.mpr ⟨fun o _ => ?_, h.imp fun {a b} hab x hx y hy => ?_⟩
  · refine List.pairwise_cons.mpr ⟨fun y hy => ?_, List.pairwise_singleton _ _⟩
    have e : y = Nat.gcd o (c - 1).natAbs := by simpa using hy
    rw [e]
    exact cop_of_dvd (gcd_next c) (Nat.gcd_dvd_right _ _) (Nat.gcd_dvd_right _ _)
  · have dv : ∀ {o z}, z ∈ ends o c → z ∣ o := fun {o z} hz => by
      unfold ends at hz
      simp at hz
      rcases hz with rfl | rfl
      · exact Nat.gcd_dvd_left _ _
      · exact Nat.gcd_dvd_left _ _
    exact cop_of_dvd hab (dv hx) (dv hy)
theorem perm_cop {l m : List Nat} (h : l.Perm m) (hm : Cop m) : Cop l := (h.pairwise_iff fun hab => Nat.Coprime.symm hab).mpr hm
theorem stepS_cop {f : List Nat} (h : Cop f) (c : Int) : Cop (stepS f c) := perm_cop (srt_perm _) ((pend_cop h c).sublist List.filter_sublist)
theorem foldl_cop : ∀ (cs : List Int) {f : List Nat}, Cop f → Cop (cs.foldl stepS f)
  | [], _, h => h
  | c :: cs, _, h => foldl_cop cs (stepS_cop h c)
theorem parts_cop (cs : List Int) : Cop (parts cs) := foldl_cop cs (List.pairwise_singleton _ _)
theorem stepS_keep {f : List Nat} {c : Int} : ∀ o ∈ stepS f c, keep o = true := fun o ho => (List.mem_filter.mp ((srt_perm _).mem_iff.mp ho)).2
theorem foldl_keep : ∀ (cs : List Int) {f : List Nat}, (∀ o ∈ f, keep o = true) → ∀ o ∈ cs.foldl stepS f, keep o = true
  | [], _, h => h
  | c :: cs, _, _ => foldl_keep cs stepS_keep
theorem parts_keep (cs : List Int) : ∀ o ∈ parts cs, keep o = true := foldl_keep cs (by decide)
/-- a lot: no common divisors, from 3 on, ascending -/
structure Lot (L : List Nat) : Prop where
  cop : Cop L
  big : ∀ m ∈ L, 3 ≤ m
  asc : L.Pairwise (· ≤ ·)
theorem lotOf_some {cs : List Int} {L : List Nat} (h : lotOf cs = some L) : parts cs = L ∧ Lot L := by
  unfold lotOf at h
  split at h
  · cases h
  · rename_i hn
    have e := Option.some.inj h
    refine ⟨e, ?_⟩
    rw [← e]
    refine ⟨parts_cop cs, fun m hm => ?_, parts_sorted cs⟩
    have hk := parts_keep cs m hm
    have h0 : m ≠ 0 := fun z => hn (z ▸ hm)
    unfold keep at hk
    simp [h0] at hk
    omega
/-! ### sizes -/
theorem pend_len (f : List Nat) (c : Int) : (pend f c).length = 2 * f.length := by
  unfold pend
  induction f with
  | nil => rfl
  | cons o f ih =>
    rw [List.flatMap_cons, List.length_append, ih, List.length_cons]
    show 2 + 2 * f.length = 2 * (f.length + 1)
    omega
theorem step1_len (f : List Nat) (c : Int) : (step1 f c).length ≤ 2 * f.length := by
  rw [← pend_len f c]
  exact List.length_filter_le _ _
theorem stepS_len (f : List Nat) (c : Int) : (stepS f c).length ≤ 2 * f.length := by
  unfold stepS
  rw [(srt_perm _).length_eq]
  exact step1_len f c
theorem foldl_len : ∀ (cs : List Int) (f : List Nat), (cs.foldl stepS f).length ≤ 2 ^ cs.length * f.length
  | [], f => by simp
  | c :: cs, f => by
    have h1 := foldl_len cs (stepS f c)
    have h2 := stepS_len f c
    show (cs.foldl stepS (stepS f c)).length ≤ _
    rw [List.length_cons, Nat.pow_succ]
    calc _ ≤ 2 ^ cs.length * (stepS f c).length := h1
      _ ≤ 2 ^ cs.length * (2 * f.length) := Nat.mul_le_mul_left _ h2
      _ = _ := by rw [Nat.mul_assoc]
theorem parts_len (cs : List Int) : (parts cs).length ≤ 2 ^ cs.length := by
  have := foldl_len cs [0]
  rw [List.length_singleton, Nat.mul_one] at this
  exact this
end M45
namespace M45
open List
/-! ### coarser lots -/
theorem snoc_ind {α : Type} {P : List α → Prop} (h0 : P []) (hs : ∀ l a, P l → P (l ++ [a])) : ∀ l, P l := by
  intro l
  have : ∀ r : List α, P r.reverse := by
    intro r
    induction r with
    | nil => exact h0
    | cons a r ih =>
      rw [List.reverse_cons]
      exact hs _ _ ih
  have h := this l.reverse
  rwa [List.reverse_reverse] at h
def goes (A : List Nat) (d : Nat) : Bool := A.all fun o => decide (Nat.gcd d o = 1)
def grow (F : List (List Nat)) (d : Nat) : List (List Nat) := F ++ (F.filter fun A => goes A d).map (· ++ [d])
def lotsOf (ds : List Nat) : List (List Nat) := ds.foldl grow [[]]
theorem lotsOf_snoc (ds : List Nat) (d : Nat) : lotsOf (ds ++ [d]) = grow (lotsOf ds) d := by
  unfold lotsOf
  rw [List.foldl_append]
  rfl
theorem goes_iff {A : List Nat} {d : Nat} : goes A d = true ↔ ∀ o ∈ A, Nat.Coprime o d := by
  unfold goes
  rw [List.all_eq_true]
  refine ⟨fun h o ho => ?_, fun h o ho => decide_eq_true ?_⟩
  · have := of_decide_eq_true (h o ho)
    exact (Nat.gcd_comm o d).trans this
  · exact (Nat.gcd_comm d o).trans (h o ho)
theorem cop_snoc {A : List Nat} {d : Nat} : Cop (A ++ [d]) ↔ Cop A ∧ ∀ o ∈ A, Nat.Coprime o d := by
  unfold Cop
  rw [List.pairwise_append]
  refine ⟨fun h => ⟨h.1, fun o ho => h.2.2 o ho d List.mem_cons_self⟩, fun h => ⟨h.1, List.pairwise_singleton _ _, fun o ho e he => ?_⟩⟩
  have : e = d := by simpa using he
  rw [this]
  exact h.2 o ho
theorem sub_snoc {A ds : List Nat} {d : Nat} : A.Sublist (ds ++ [d]) ↔ A.Sublist ds ∨ ∃ B, A = B ++ [d] ∧ B.Sublist ds := by
  rw [List.sublist_append_iff]
  refine ⟨?_, ?_⟩
  · rintro ⟨l1, l2, rfl, h1, h2⟩
    cases h2 with
    | cons _ h =>
      have : l2 = [] := List.sublist_nil.mp h
      subst this
      rw [List.append_nil]
      exact .inl h1
    | @cons_cons r1 _ _ h =>
      have : r1 = [] := List.sublist_nil.mp h
      subst this
      exact .inr ⟨l1, rfl, h1⟩
  · rintro (h | ⟨B, rfl, h⟩)
    · exact ⟨A, [], (List.append_nil A).symm, h, List.nil_sublist _⟩
    · exact ⟨B, [d], rfl, h, List.Sublist.refl _⟩
theorem lotsOf_mem : ∀ (ds A : List Nat), A ∈ lotsOf ds ↔ A.Sublist ds ∧ Cop A := by
  refine snoc_ind (fun A => ?_) (fun ds d ih A => ?_)
  · show A ∈ [[]] ↔ _
    rw [List.mem_singleton, List.sublist_nil]
    exact ⟨fun h => ⟨h, h ▸ List.Pairwise.nil⟩, fun h => h.1⟩
  · rw [lotsOf_snoc, sub_snoc]
    unfold grow
    rw [List.mem_append, List.mem_map, ih]
    constructor
    · rintro (h | ⟨B, hB, rfl⟩)
      · exact ⟨.inl h.1, h.2⟩
      · obtain ⟨h1, h2⟩ := List.mem_filter.mp hB
        obtain ⟨h3, h4⟩ := (ih B).mp h1
        exact ⟨.inr ⟨B, rfl, h3⟩, cop_snoc.mpr ⟨h4, goes_iff.mp h2⟩⟩
    · rintro ⟨h | ⟨B, rfl, h⟩, hc⟩
      · exact .inl ⟨h, hc⟩
      · obtain ⟨h1, h2⟩ := cop_snoc.mp hc
        exact .inr ⟨B, List.mem_filter.mpr ⟨(ih B).mpr ⟨h, h1⟩, goes_iff.mpr h2⟩, rfl⟩
theorem lotsOf_nodup : ∀ ds : List Nat, ds.Nodup → (lotsOf ds).Nodup := by
  refine snoc_ind (fun _ => by decide) (fun ds d ih h => ?_)
  rw [List.nodup_append] at h
  obtain ⟨h1, _, h3⟩ := h
  rw [lotsOf_snoc]
  unfold grow
  rw [List.nodup_append]
  refine ⟨ih h1, ?_, fun A hA B hB e => ?_⟩
  · have : ((lotsOf ds).filter fun A => goes A d).Nodup := (ih h1).sublist List.filter_sublist
    exact List.pairwise_map.mpr (this.imp fun {a b} hab e => hab (List.append_cancel_right e))
  · obtain ⟨C, _, rfl⟩ := List.mem_map.mp hB
    have hd : d ∈ ds := ((lotsOf_mem ds A).mp hA).1.subset (by rw [e]; simp)
    exact h3 d hd d (by simp) rfl
theorem lotsOf_len (ds : List Nat) : (lotsOf ds).length ≤ 2 ^ ds.length := by
  refine snoc_ind (P := fun ds => (lotsOf ds).length ≤ 2 ^ ds.length) (by decide) (fun ds d ih => ?_) ds
  rw [lotsOf_snoc]
  unfold grow
  rw [List.length_append, List.length_map, List.length_append, List.length_singleton, Nat.pow_succ]
  have := List.length_filter_le (fun A => goes A d) (lotsOf ds)
  omega
/-- the empty lot is the first one -/
theorem lotsOf_head (ds : List Nat) : ∃ r, lotsOf ds = [] :: r := by
  refine snoc_ind (P := fun ds => ∃ r, lotsOf ds = [] :: r) ⟨[], rfl⟩ (fun ds d ⟨r, ih⟩ => ?_) ds
  rw [lotsOf_snoc]
  unfold grow
  rw [ih]
  exact ⟨_, rfl⟩
/-! ### the divisors -/
def divsOne (m : Nat) : List Nat := (List.range' 3 (m - 2)).filter fun d => decide (m % d = 0)
def divs (L : List Nat) : List Nat := srt (L.flatMap divsOne)
def top (L : List Nat) : Nat := L.foldl max 3
def divsL (L : List Nat) : List Nat := (List.range' 3 (top L - 2)).filter fun q => L.any fun p => decide (p % q = 0)
theorem mem_range3 {n d : Nat} : d ∈ List.range' 3 (n - 2) ↔ 3 ≤ d ∧ d ≤ n := by
  rw [List.mem_range']
  constructor
  · rintro ⟨i, h, rfl⟩
    omega
  · rintro ⟨h1, h2⟩
    exact ⟨d - 3, by omega, by omega⟩
theorem mem_divsOne {m d : Nat} : d ∈ divsOne m ↔ 3 ≤ d ∧ d ≤ m ∧ d ∣ m := by
  unfold divsOne
  rw [List.mem_filter, mem_range3, decide_eq_true_eq, Nat.dvd_iff_mod_eq_zero]
  exact ⟨fun h => ⟨h.1.1, h.1.2, h.2⟩, fun h => ⟨⟨h.1, h.2.1⟩, h.2.2⟩⟩
theorem mem_divs {L : List Nat} {d : Nat} (hL : ∀ m ∈ L, 3 ≤ m) : d ∈ divs L ↔ 3 ≤ d ∧ ∃ m ∈ L, d ∣ m := by
  unfold divs
  rw [(srt_perm _).mem_iff, List.mem_flatMap]
  constructor
  · rintro ⟨m, hm, h⟩
    obtain ⟨h1, _, h3⟩ := mem_divsOne.mp h
    exact ⟨h1, m, hm, h3⟩
  · rintro ⟨h1, m, hm, h3⟩
    exact ⟨m, hm, mem_divsOne.mpr ⟨h1, Nat.le_of_dvd (by have := hL m hm; omega) h3, h3⟩⟩
theorem le_top : ∀ (L : List Nat) (a : Nat), a ≤ L.foldl max a ∧ ∀ m ∈ L, m ≤ L.foldl max a
  | [], a => ⟨Nat.le_refl _, fun m h => by cases h⟩
  | b :: L, a => by
    obtain ⟨h1, h2⟩ := le_top L (max a b)
    refine ⟨Nat.le_trans (Nat.le_max_left _ _) h1, fun m hm => ?_⟩
    rcases (List.mem_cons.mp hm) with rfl | hm
    · exact Nat.le_trans (Nat.le_max_right _ _) h1
    · exact h2 m hm
theorem top_mem : ∀ (L : List Nat) (a : Nat), L.foldl max a = a ∨ L.foldl max a ∈ L
  | [], a => .inl rfl
  | b :: L, a => by
    rcases top_mem L (max a b) with h | h
    · show List.foldl max (max a b) L = a ∨ List.foldl max (max a b) L ∈ b :: L
      rw [h]
      by_cases hab : a ≤ b
      · exact .inr (by rw [Nat.max_eq_right hab]; exact List.mem_cons_self)
      · exact .inl (Nat.max_eq_left (by omega))
    · exact .inr (List.mem_cons_of_mem _ h)
theorem mem_divsL {L : List Nat} {d : Nat} (hL : ∀ m ∈ L, 3 ≤ m) : d ∈ divsL L ↔ 3 ≤ d ∧ ∃ m ∈ L, d ∣ m := by
  unfold divsL
  rw [List.mem_filter, mem_range3, List.any_eq_true]
  constructor
  · rintro ⟨⟨h1, _⟩, m, hm, h⟩
    exact ⟨h1, m, hm, Nat.dvd_of_mod_eq_zero (of_decide_eq_true h)⟩
  · rintro ⟨h1, m, hm, h⟩
    exact ⟨⟨h1, Nat.le_trans (Nat.le_of_dvd (by have := hL m hm; omega) h) ((le_top L 3).2 m hm)⟩, m, hm, decide_eq_true (Nat.mod_eq_zero_of_dvd h)⟩
theorem range_lt (n : Nat) : (List.range' 3 n).Pairwise (· < ·) := List.pairwise_lt_range'
theorem divsL_lt (L : List Nat) : (divsL L).Pairwise (· < ·) := (range_lt _).sublist List.filter_sublist
theorem divs_nodup {L : List Nat} (hL : Lot L) : (divs L).Nodup := by
  have : (L.flatMap divsOne).Nodup := by
    refine List.pairwise_flatMap.mpr ⟨fun m _ => ?_, hL.cop.imp fun {a b} hab x hx y hy e => ?_⟩
    · exact ((range_lt _).sublist List.filter_sublist).imp fun h => Nat.ne_of_lt h
    · subst e
      obtain ⟨h1, _, h2⟩ := mem_divsOne.mp hx
      obtain ⟨_, _, h3⟩ := mem_divsOne.mp hy
      have h4 : x ∣ Nat.gcd a b := Nat.dvd_gcd h2 h3
      have hab' : Nat.gcd a b = 1 := hab
      rw [hab'] at h4
      have := Nat.dvd_one.mp h4
      omega
  exact (srt_perm _).nodup_iff.mpr this
theorem divs_eq {L : List Nat} (hL : Lot L) : divs L = divsL L := by
  refine List.Perm.eq_of_pairwise (fun a b _ _ h1 h2 => Nat.le_antisymm h1 h2) (srt_pw _) ((divsL_lt L).imp fun h => Nat.le_of_lt h) ?_
  refine (List.perm_ext_iff_of_nodup (divs_nodup hL) ((divsL_lt L).imp fun h => Nat.ne_of_lt h)).mpr fun d => ?_
  rw [mem_divs hL.big, mem_divsL hL.big]
theorem divs_lt {L : List Nat} (hL : Lot L) : (divs L).Pairwise (· < ·) := by
  rw [divs_eq hL]
  exact divsL_lt L
theorem sub_of_lt : ∀ {ds A : List Nat}, ds.Pairwise (· < ·) → (A.Sublist ds ↔ A.Pairwise (· < ·) ∧ ∀ a ∈ A, a ∈ ds) := by
  intro ds
  induction ds with
  | nil =>
    intro A _
    rw [List.sublist_nil]
    constructor
    · rintro rfl
      exact ⟨List.Pairwise.nil, fun a h => by cases h⟩
    · rintro ⟨_, h⟩
      cases A with
      | nil => rfl
      | cons a A => exact absurd (h a List.mem_cons_self) (by simp)
  | cons d ds ih =>
    intro A hds
    obtain ⟨h1, h2⟩ := List.pairwise_cons.mp hds
    constructor
    · intro h
      exact ⟨hds.sublist h, fun a ha => h.subset ha⟩
    · rintro ⟨hA, hm⟩
      cases A with
      | nil => exact List.nil_sublist _
      | cons a A =>
        obtain ⟨a1, a2⟩ := List.pairwise_cons.mp hA
        rcases List.mem_cons.mp (hm a List.mem_cons_self) with e | ha
        · subst e
          refine List.Sublist.cons_cons _ ((ih h2).mpr ⟨a2, fun x hx => ?_⟩)
          rcases List.mem_cons.mp (hm x (List.mem_cons_of_mem _ hx)) with e | h
          · have := a1 x hx
            omega
          · exact h
        · refine List.Sublist.cons _ ((ih h2).mpr ⟨hA, fun x hx => ?_⟩)
          rcases List.mem_cons.mp (hm x hx) with e | h
          · subst e
            have l1 := h1 a ha
            rcases (List.mem_cons.mp hx) with e | hx
            · omega
            · have := a1 x hx
              omega
          · exact h
def coarse (L : List Nat) : List (List Nat) := lotsOf (divs L)
/-- a lot whose moduli divide those of L -/
structure Under (L A : List Nat) : Prop where
  cop : Cop A
  lt : A.Pairwise (· < ·)
  dv : ∀ a ∈ A, 3 ≤ a ∧ ∃ m ∈ L, a ∣ m
theorem coarse_mem {L A : List Nat} (hL : Lot L) : A ∈ coarse L ↔ Under L A := by
  unfold coarse
  rw [lotsOf_mem, sub_of_lt (divs_lt hL)]
  constructor
  · rintro ⟨⟨h1, h2⟩, h3⟩
    exact ⟨h3, h1, fun a ha => (mem_divs hL.big).mp (h2 a ha)⟩
  · rintro ⟨h1, h2, h3⟩
    exact ⟨⟨h2, fun a ha => (mem_divs hL.big).mpr (h3 a ha)⟩, h1⟩
theorem coarse_nodup {L : List Nat} (hL : Lot L) : (coarse L).Nodup := lotsOf_nodup _ (divs_nodup hL)
/-! ### which counts fit -/
def fit (A : List Nat) (c : Int) : Bool := A.all fun m => decide (c % (m : Int) < 2)
theorem rest_iff {a : Nat} (ha : 3 ≤ a) (c : Int) : c % (a : Int) < 2 ↔ a ∣ c.natAbs ∨ a ∣ (c - 1).natAbs := by
  rw [← Int.ofNat_dvd_left, ← Int.ofNat_dvd_left]
  have h0 : (0 : Int) < a := by omega
  have e1 := Int.emod_nonneg c (show (a : Int) ≠ 0 by omega)
  constructor
  · intro h
    have : c % (a : Int) = 0 ∨ c % (a : Int) = 1 := by omega
    rcases this with h | h
    · exact .inl (Int.dvd_of_emod_eq_zero h)
    · refine .inr (Int.dvd_of_emod_eq_zero ?_)
      rw [Int.sub_emod, h]
      have : (1 : Int) % a = 1 := Int.emod_eq_of_lt (by omega) (by omega)
      rw [this]
      rfl
  · rintro (h | h)
    · rw [Int.emod_eq_zero_of_dvd h]
      omega
    · have h1 := Int.emod_eq_zero_of_dvd h
      have e : c = (c - 1) + 1 := by omega
      rw [e, Int.add_emod, h1, Int.zero_add, Int.emod_emod]
      have : (1 : Int) % a = 1 := Int.emod_eq_of_lt (by omega) (by omega)
      rw [this]
      omega
theorem fit_iff {A : List Nat} {c : Int} : fit A c = true ↔ ∀ a ∈ A, c % (a : Int) < 2 := by
  unfold fit
  rw [List.all_eq_true]
  exact ⟨fun h a ha => of_decide_eq_true (h a ha), fun h a ha => decide_eq_true (h a ha)⟩
/-! ### a further count told yes -/
theorem mem_stepS {L : List Nat} (hL : Lot L) {c : Int} {g : Nat} : g ∈ stepS L c ↔ 3 ≤ g ∧ ∃ m ∈ L, g = Nat.gcd m c.natAbs ∨ g = Nat.gcd m (c - 1).natAbs := by
  unfold stepS step1 pend
  rw [(srt_perm _).mem_iff, List.mem_filter, List.mem_flatMap]
  have pos : ∀ m ∈ L, ∀ x, Nat.gcd m x ≠ 0 := fun m hm x z => by
    have := Nat.gcd_pos_of_pos_left x (show 0 < m by have := hL.big m hm; omega)
    omega
  constructor
  · rintro ⟨⟨m, hm, h⟩, hk⟩
    unfold ends at h
    have h' : g = Nat.gcd m c.natAbs ∨ g = Nat.gcd m (c - 1).natAbs := by simpa using h
    refine ⟨?_, m, hm, h'⟩
    have hg : g ≠ 0 := by
      rcases h' with rfl | rfl
      · exact pos m hm _
      · exact pos m hm _
    unfold keep at hk
    simp [hg] at hk
    omega
  · rintro ⟨h3, m, hm, h⟩
    refine ⟨⟨m, hm, ?_⟩, ?_⟩
    · unfold ends
      simpa using h
    · unfold keep
      simp
      omega
theorem stepS_lot {L : List Nat} (hL : Lot L) (c : Int) : Lot (stepS L c) := ⟨stepS_cop hL.cop c, fun g hg => ((mem_stepS hL).mp hg).1, srt_pw _⟩
theorem lotOf_snoc {cs : List Int} {L : List Nat} (h : lotOf cs = some L) (c : Int) : lotOf (cs ++ [c]) = some (stepS L c) := by
  obtain ⟨e, hL⟩ := lotOf_some h
  unfold lotOf
  rw [parts_snoc, e, if_neg]
  intro h0
  have := ((mem_stepS hL).mp h0).1
  omega
theorem under_step {L A : List Nat} (hL : Lot L) {c : Int} : Under (stepS L c) A ↔ Under L A ∧ fit A c = true := by
  rw [fit_iff]
  constructor
  · rintro ⟨h1, h2, h3⟩
    refine ⟨⟨h1, h2, fun a ha => ?_⟩, fun a ha => ?_⟩
    · obtain ⟨h4, g, hg, hd⟩ := h3 a ha
      obtain ⟨_, m, hm, h⟩ := (mem_stepS hL).mp hg
      refine ⟨h4, m, hm, Nat.dvd_trans hd ?_⟩
      rcases h with rfl | rfl
      · exact Nat.gcd_dvd_left _ _
      · exact Nat.gcd_dvd_left _ _
    · obtain ⟨h4, g, hg, hd⟩ := h3 a ha
      obtain ⟨_, m, hm, h⟩ := (mem_stepS hL).mp hg
      refine (rest_iff h4 c).mpr ?_
      rcases h with rfl | rfl
      · exact .inl (Nat.dvd_trans hd (Nat.gcd_dvd_right _ _))
      · exact .inr (Nat.dvd_trans hd (Nat.gcd_dvd_right _ _))
  · rintro ⟨⟨h1, h2, h3⟩, hf⟩
    refine ⟨h1, h2, fun a ha => ?_⟩
    obtain ⟨h4, m, hm, hd⟩ := h3 a ha
    have hpos : 0 < m := by have := hL.big m hm; omega
    refine ⟨h4, ?_⟩
    rcases (rest_iff h4 c).mp (hf a ha) with h | h
    · have hg := Nat.dvd_gcd hd h
      exact ⟨_, (mem_stepS hL).mpr ⟨Nat.le_trans h4 (Nat.le_of_dvd (Nat.gcd_pos_of_pos_left _ hpos) hg), m, hm, .inl rfl⟩, hg⟩
    · have hg := Nat.dvd_gcd hd h
      exact ⟨_, (mem_stepS hL).mpr ⟨Nat.le_trans h4 (Nat.le_of_dvd (Nat.gcd_pos_of_pos_left _ hpos) hg), m, hm, .inr rfl⟩, hg⟩
theorem coarse_step {L : List Nat} (hL : Lot L) (c : Int) : (coarse (stepS L c)).Perm ((coarse L).filter fun A => fit A c) := by
  refine (List.perm_ext_iff_of_nodup (coarse_nodup (stepS_lot hL c)) ((coarse_nodup hL).sublist List.filter_sublist)).mpr fun A => ?_
  rw [coarse_mem (stepS_lot hL c), under_step hL, List.mem_filter, coarse_mem hL]
end M45
namespace M45
open List
/-! ### two lots are told apart by a count below the product -/
theorem bezout (m n : Nat) : ∃ x y : Int, x * m + y * n = (Nat.gcd m n : Nat) := by
  induction m, n using Nat.gcd.induction with
  | H0 n => exact ⟨0, 1, by simp⟩
  | H1 m n hm ih =>
    obtain ⟨x, y, h⟩ := ih
    refine ⟨y - x * (n / m : Nat), x, ?_⟩
    rw [Nat.gcd_rec, ← h]
    have e : (n : Int) = (m : Int) * (n / m : Nat) + (n % m : Nat) := by
      have := Nat.div_add_mod n m
      omega
    generalize (n / m : Nat) = q at *
    generalize (n % m : Nat) = r at *
    rw [e, Int.sub_mul, Int.mul_add, Int.mul_assoc x (q : Int), Int.mul_comm (q : Int) (m : Int)]
    omega
/-- leaves 1 by one, 0 by another without a common divisor -/
theorem crt {u v : Nat} (h : Nat.Coprime u v) : ∃ n : Int, (u : Int) ∣ n - 1 ∧ (v : Int) ∣ n := by
  obtain ⟨x, y, e⟩ := bezout u v
  have h1 : Nat.gcd u v = 1 := h
  rw [h1] at e
  refine ⟨y * v, ⟨-x, ?_⟩, ⟨y, Int.mul_comm _ _⟩⟩
  have : (u : Int) * -x = -(x * u) := by rw [Int.mul_neg, Int.mul_comm]
  rw [this]
  omega
def prodN (L : List Nat) : Nat := L.foldr (· * ·) 1
theorem dvd_prod : ∀ {L : List Nat} {m : Nat}, m ∈ L → m ∣ prodN L
  | a :: L, m, h => by
    rcases (List.mem_cons.mp h) with rfl | h
    · exact Nat.dvd_mul_right _ _
    · exact Nat.dvd_trans (dvd_prod h) (Nat.dvd_mul_left _ _)
theorem prod_pos : ∀ {L : List Nat}, (∀ m ∈ L, 3 ≤ m) → 0 < prodN L
  | [], _ => Nat.one_pos
  | a :: L, h => Nat.mul_pos (by have := h a List.mem_cons_self; omega) (prod_pos fun m hm => h m (List.mem_cons_of_mem _ hm))
theorem cop_prod {a : Nat} : ∀ {L : List Nat}, (∀ m ∈ L, Nat.Coprime a m) → Nat.Coprime a (prodN L)
  | [], _ => Nat.coprime_one_right a
  | b :: L, h => Nat.Coprime.mul_right (h b List.mem_cons_self) (cop_prod fun m hm => h m (List.mem_cons_of_mem _ hm))
theorem prod_split {B C : List Nat} {b : Nat} : prodN (B ++ b :: C) = b * prodN (B ++ C) := by
  induction B with
  | nil => rfl
  | cons x B ih =>
    show x * prodN (B ++ b :: C) = b * (x * prodN (B ++ C))
    rw [ih, Nat.mul_left_comm]
theorem not_two {a : Nat} (ha : 3 ≤ a) {n : Nat} (h1 : a ∣ n) (h2 : a ∣ n + 1) : False := by
  have := (Nat.dvd_add_right h1).mp h2
  have := Nat.dvd_one.mp this
  omega
/-- where each count that fits B fits a, a divides a modulus of B -/
theorem sep_one {a : Nat} {B : List Nat} (ha : 3 ≤ a) (hB : Cop B) (h3 : ∀ b ∈ B, 3 ≤ b) (h : ∀ n : Int, fit B n = true → n % (a : Int) < 2) : ∃ b ∈ B, a ∣ b := by
  have hP : a ∣ prodN B := by
    have z : ∀ b ∈ B, (b : Int) ∣ (prodN B : Nat) := fun b hb => Int.ofNat_dvd.mpr (dvd_prod hb)
    have f0 : fit B (prodN B : Nat) = true := fit_iff.mpr fun b hb => by
      rw [Int.emod_eq_zero_of_dvd (z b hb)]
      omega
    have f1 : fit B ((prodN B : Nat) + 1) = true := fit_iff.mpr fun b hb => by
      refine (rest_iff (h3 b hb) _).mpr (.inr ?_)
      rw [Int.add_sub_cancel]
      exact dvd_prod hb
    have g0 := (rest_iff ha _).mp (h _ f0)
    have g1 := (rest_iff ha _).mp (h _ f1)
    rw [Int.add_sub_cancel] at g1
    rcases g1 with g1 | g1
    · rcases g0 with g0 | g0
      · exact g0
      · exfalso
        have p := prod_pos h3
        have e0 : ((prodN B : Nat) - 1 : Int).natAbs = prodN B - 1 := by omega
        have e1 : ((prodN B : Nat) + 1 : Int).natAbs = prodN B + 1 := by omega
        rw [e0] at g0
        rw [e1] at g1
        have g2 : a ∣ (prodN B - 1) + 2 := by
          have : prodN B - 1 + 2 = prodN B + 1 := by omega
          rw [this]
          exact g1
        have := Nat.le_of_dvd (by omega) ((Nat.dvd_add_right g0).mp g2)
        omega
    · exact g1
  by_cases hc : ∃ b ∈ B, Nat.gcd a b ≠ 1
  · obtain ⟨b, hb, hg⟩ := hc
    refine ⟨b, hb, ?_⟩
    obtain ⟨B1, B2, rfl⟩ := List.append_of_mem hb
    rw [prod_split] at hP
    have hcop : Cop (b :: (B1 ++ B2)) := perm_cop (List.perm_middle.symm) hB
    obtain ⟨hc1, _⟩ := List.pairwise_cons.mp hcop
    obtain ⟨n, n1, n0⟩ := crt (cop_prod hc1)
    have hf : fit (B1 ++ b :: B2) n = true := fit_iff.mpr fun x hx => by
      refine (rest_iff (h3 x hx) _).mpr ?_
      have hx' : x = b ∨ x ∈ B1 ++ B2 := by
        simp only [List.mem_append, List.mem_cons] at hx ⊢
        rcases hx with h | h | h
        · exact .inr (.inl h)
        · exact .inl h
        · exact .inr (.inr h)
      rcases hx' with rfl | hx'
      · exact .inr (Int.ofNat_dvd_left.mp n1)
      · exact .inl (Int.ofNat_dvd_left.mp (Int.dvd_trans (Int.ofNat_dvd.mpr (dvd_prod hx')) n0))
    rcases (rest_iff ha n).mp (h n hf) with g | g
    · exfalso
      have d1 : Nat.gcd a b ∣ n.natAbs := Nat.dvd_trans (Nat.gcd_dvd_left _ _) g
      have d2 : Nat.gcd a b ∣ (n - 1).natAbs := Nat.dvd_trans (Nat.gcd_dvd_right _ _) (Int.ofNat_dvd_left.mp n1)
      have := Nat.dvd_gcd d1 d2
      have e : Nat.gcd n.natAbs (n - 1).natAbs = 1 := gcd_next n
      rw [e] at this
      exact hg (Nat.dvd_one.mp this)
    · have hco : Nat.Coprime a (prodN (B1 ++ B2)) := by
        have d1 : Nat.gcd a (prodN (B1 ++ B2)) ∣ (n - 1).natAbs := Nat.dvd_trans (Nat.gcd_dvd_left _ _) g
        have d2 : Nat.gcd a (prodN (B1 ++ B2)) ∣ n.natAbs := Nat.dvd_trans (Nat.gcd_dvd_right _ _) (Int.ofNat_dvd_left.mp n0)
        have := Nat.dvd_gcd d2 d1
        have e : Nat.gcd n.natAbs (n - 1).natAbs = 1 := gcd_next n
        rw [e] at this
        exact Nat.dvd_one.mp this
      exact hco.dvd_of_dvd_mul_right hP
  · exfalso
    have : Nat.Coprime a (prodN B) := cop_prod fun b hb => Decidable.byContradiction fun h => hc ⟨b, hb, h⟩
    have h1 : Nat.gcd a (prodN B) = 1 := this
    rw [Nat.gcd_eq_left hP] at h1
    omega
theorem same_of_fit {L A B : List Nat} (hA : Under L A) (hB : Under L B) (h : ∀ n : Int, fit A n = fit B n) : A = B := by
  have one : ∀ {A B : List Nat}, Under L A → Under L B → (∀ n : Int, fit B n = true → fit A n = true) → ∀ a ∈ A, ∃ b ∈ B, a ∣ b := fun {A B} hA hB h a ha =>
    sep_one (hA.dv a ha).1 hB.cop (fun b hb => (hB.dv b hb).1) fun n hn => fit_iff.mp (h n hn) a ha
  have two : ∀ {A B : List Nat}, Under L A → Under L B → (∀ n : Int, fit A n = fit B n) → ∀ a ∈ A, a ∈ B := fun {A B} hA hB h a ha => by
    obtain ⟨b, hb, d1⟩ := one hA hB (fun n hn => (h n).trans hn) a ha
    obtain ⟨a', ha', d2⟩ := one hB hA (fun n hn => (h n).symm.trans hn) b hb
    have e : a = a' := Decidable.byContradiction fun ne => by
      have hc : Nat.Coprime a a' := by
        obtain ⟨i, hi, e1⟩ := List.getElem_of_mem ha
        obtain ⟨j, hj, e2⟩ := List.getElem_of_mem ha'
        have pw := List.pairwise_iff_getElem.mp hA.cop
        rcases Nat.lt_trichotomy i j with l | l | l
        · rw [← e1, ← e2]
          exact pw i j hi hj l
        · subst l
          exact absurd (e1.symm.trans e2) ne
        · rw [← e1, ← e2]
          exact (pw j i hj hi l).symm
      have d3 : a ∣ a' := Nat.dvd_trans d1 d2
      have h1 : Nat.gcd a a' = 1 := hc
      rw [Nat.gcd_eq_left d3] at h1
      have := (hA.dv a ha).1
      omega
    have e2 : a = b := Nat.dvd_antisymm d1 (e ▸ d2)
    exact e2 ▸ hb
  refine List.Perm.eq_of_pairwise (le := (· < ·)) (fun a b _ _ h1 h2 => by omega) hA.lt hB.lt ((List.perm_ext_iff_of_nodup (hA.lt.imp fun h => Nat.ne_of_lt h) (hB.lt.imp fun h => Nat.ne_of_lt h)).mpr fun a => ?_)
  exact ⟨two hA hB h a, two hB hA (fun n => (h n).symm) a⟩
theorem fit_mod {L A : List Nat} (hA : Under L A) (n : Int) : fit A (n % (prodN L : Nat)) = fit A n := by
  unfold fit
  refine Bool.eq_iff_iff.mpr ?_
  rw [List.all_eq_true, List.all_eq_true]
  have e : ∀ a ∈ A, n % (prodN L : Nat) % (a : Int) = n % (a : Int) := fun a ha => by
    obtain ⟨_, m, hm, hd⟩ := hA.dv a ha
    exact Int.emod_emod_of_dvd n (Int.ofNat_dvd.mpr (Nat.dvd_trans hd (dvd_prod hm)))
  exact ⟨fun h a ha => by rw [← e a ha]; exact h a ha, fun h a ha => by rw [e a ha]; exact h a ha⟩
theorem told_apart {L A B : List Nat} (hL : Lot L) (hA : Under L A) (hB : Under L B) (hne : A ≠ B) : ∃ n : Nat, n < prodN L ∧ fit A n ≠ fit B n := by
  have hW := prod_pos hL.big
  have : ∃ n : Int, fit A n ≠ fit B n := Classical.byContradiction fun h => hne (same_of_fit hA hB fun n => Classical.byContradiction fun z => h ⟨n, z⟩)
  obtain ⟨n, hn⟩ := this
  have e1 := Int.emod_nonneg n (show ((prodN L : Nat) : Int) ≠ 0 by omega)
  have e2 := Int.emod_lt_of_pos n (show (0 : Int) < (prodN L : Nat) by omega)
  refine ⟨(n % (prodN L : Nat)).toNat, by omega, ?_⟩
  have e3 : (((n % (prodN L : Nat)).toNat : Nat) : Int) = n % (prodN L : Nat) := by omega
  rw [e3, fit_mod hA, fit_mod hB]
  exact hn
/-! ### the best question -/
def many (F : List (List Nat)) (n : Int) : Nat := (F.filter fun A => fit A n).length
def part (F : List (List Nat)) (n : Int) : Nat := max (many F n) (F.length - many F n)
def turnB (F : List (List Nat)) (s : Option Nat × Nat) (n : Nat) : Option Nat × Nat := if part F n < s.2 then (some n, part F n) else s
def best (F : List (List Nat)) (W : Nat) : Option Nat × Nat := (List.range W).foldl (turnB F) (none, F.length)
theorem best_succ (F : List (List Nat)) (W : Nat) : best F (W + 1) = turnB F (best F W) W := by
  unfold best
  rw [List.range_succ, List.foldl_append,]
  rfl
theorem best_inv (F : List (List Nat)) : ∀ W, (∀ n, n < W → (best F W).2 ≤ part F n) ∧ ((best F W).1 = none → (best F W).2 = F.length) ∧ (∀ b, (best F W).1 = some b → b < W ∧ (best F W).2 = part F b ∧ part F b < F.length) ∧ (best F W).2 ≤ F.length
  | 0 => ⟨fun n h => absurd h (Nat.not_lt_zero _), fun _ => rfl, (fun b h => by cases h), Nat.le_refl _⟩
  | W + 1 => by
    obtain ⟨h1, h2, h3, h4⟩ := best_inv F W
    rw [best_succ]
    unfold turnB
    by_cases c : part F W < (best F W).2
    · rw [if_pos c]
      refine ⟨fun n hn => ?_, (fun h => by cases h), fun b h => ?_, (by show part F W ≤ _; omega)⟩
      · show part F W ≤ part F n
        by_cases e : n = W
        · rw [e]; exact Nat.le_refl _
        · have := h1 n (by omega)
          omega
      · have e : W = b := Option.some.inj h
        subst e
        exact ⟨Nat.lt_succ_self _, rfl, by show part F W < _; omega⟩
    · rw [if_neg c]
      refine ⟨fun n hn => ?_, h2, fun b h => ?_, h4⟩
      · by_cases e : n = W
        · rw [e]; omega
        · exact h1 n (by omega)
      · obtain ⟨a, b2, c2⟩ := h3 b h
        exact ⟨by omega, b2, c2⟩
theorem many_le (F : List (List Nat)) (n : Int) : many F n ≤ F.length := List.length_filter_le _ _
theorem best_one {F : List (List Nat)} {W : Nat} (h : F.length ≤ 1) : (best F W).1 = none := by
  cases e : (best F W).1 with
  | none => rfl
  | some b =>
    obtain ⟨_, _, h3⟩ := (best_inv F W).2.2.1 b e
    have := many_le F b
    unfold part at h3
    omega
theorem best_some {L : List Nat} {F : List (List Nat)} (hL : Lot L) (hF : F.Nodup) (hU : ∀ A ∈ F, Under L A) (h2 : 2 ≤ F.length) : ∃ b, (best F (prodN L)).1 = some b := by
  cases e : (best F (prodN L)).1 with
  | some b => exact ⟨b, rfl⟩
  | none =>
    exfalso
    obtain ⟨h1, h3, _, _⟩ := best_inv F (prodN L)
    have h3 := h3 e
    match F, hF, hU, h2 with
    | A :: B :: r, hF, hU, _ =>
      have hne : A ≠ B := (List.pairwise_cons.mp hF).1 B List.mem_cons_self
      obtain ⟨n, hn, hd⟩ := told_apart hL (hU A List.mem_cons_self) (hU B (List.mem_cons_of_mem _ List.mem_cons_self)) hne
      have h4 := h1 n hn
      rw [h3] at h4
      unfold part many at h4
      have la := (List.length_filter_lt_length_iff_exists (p := fun A => fit A n) (l := A :: B :: r))
      have pos : 0 < ((A :: B :: r).filter fun A => fit A n).length ∧ ((A :: B :: r).filter fun A => fit A n).length < (A :: B :: r).length := by
        cases ea : fit A n with
        | true =>
          have eb : fit B n = false := by
            cases eb : fit B n with
            | false => rfl
            | true => exact absurd (ea.trans eb.symm) hd
          exact ⟨List.length_pos_of_mem (List.mem_filter.mpr ⟨List.mem_cons_self, ea⟩), la.mpr ⟨B, by simp, by simp [eb]⟩⟩
        | false =>
          have eb : fit B n = true := by
            cases eb : fit B n with
            | true => rfl
            | false => exact absurd (ea.trans eb.symm) hd
          exact ⟨List.length_pos_of_mem (List.mem_filter.mpr ⟨List.mem_cons_of_mem _ List.mem_cons_self, eb⟩), la.mpr ⟨A, by simp, by simp [ea]⟩⟩
      omega
theorem best_splits {F : List (List Nat)} {W b : Nat} (h : (best F W).1 = some b) : b < W ∧ (F.filter fun A => fit A b) ≠ [] ∧ (F.filter fun A => !fit A b) ≠ [] := by
  obtain ⟨h1, _, h3⟩ := (best_inv F W).2.2.1 b h
  have hm := many_le F b
  unfold part many at h3
  refine ⟨h1, fun e => ?_, fun e => ?_⟩
  · rw [e] at h3
    simp at h3
  · have p := (List.filter_append_perm (fun A => fit A b) F).length_eq
    rw [List.length_append, e, List.length_nil, Nat.add_zero] at p
    omega
/-- the same count, as the program finds it -/
def turnP (F : List (List Nat)) (s : Int × Nat) (n : Nat) : Int × Nat := if part F n < s.2 then ((n : Int), part F n) else s
theorem prog_best (F : List (List Nat)) : ∀ W, (List.range W).foldl (turnP F) (0, F.length) = ((((best F W).1.getD 0 : Nat) : Int), (best F W).2)
  | 0 => rfl
  | W + 1 => by
    rw [List.range_succ, List.foldl_append, prog_best F W, best_succ]
    show turnP F _ W = _
    unfold turnP turnB
    by_cases c : part F W < (best F W).2
    · rw [if_pos c, if_pos c]
      rfl
    · rw [if_neg c, if_neg c]
/-! ### sorted lots -/
def lexN (a b : List Nat) : Bool := HT.lexLt (iN a) (iN b)
theorem lex_asymm : ∀ xs ys : List Int, HT.lexLt xs ys = true → HT.lexLt ys xs = false
  | [], [], h => by cases h
  | [], _ :: _, _ => rfl
  | _ :: _, [], h => by cases h
  | x :: xs, y :: ys, h => by
    rw [HT.lexLt_cons] at h ⊢
    by_cases e : x = y
    · rw [if_pos e] at h
      rw [if_pos e.symm]
      exact lex_asymm xs ys h
    · rw [if_neg e] at h
      rw [if_neg (Ne.symm e)]
      have := of_decide_eq_true h
      exact (decide_eq_false (by omega))
theorem lex_anti : ∀ xs ys : List Int, HT.lexLt xs ys = false → HT.lexLt ys xs = false → xs = ys
  | [], [], _, _ => rfl
  | [], _ :: _, h, _ => by (cases h)
  | _ :: _, [], _, h => by (cases h)
  | x :: xs, y :: ys, h1, h2 => by
    rw [HT.lexLt_cons] at h1 h2
    by_cases e : x = y
    · subst e
      rw [if_pos rfl] at h1 h2
      rw [lex_anti xs ys h1 h2]
    · rw [if_neg e] at h1
      rw [if_neg (Ne.symm e)] at h2
      have a1 := of_decide_eq_false h1
      have a2 := of_decide_eq_false h2
      omega
abbrev LexS (F : List (List Nat)) : Prop := F.Pairwise fun a b => lexN b a = false
theorem lex_uniq {F G : List (List Nat)} (h : F.Perm G) (hF : LexS F) (hG : LexS G) : F = G :=
  List.Perm.eq_of_pairwise (le := fun a b => lexN b a = false) (fun a b _ _ h1 h2 => iN_inj (lex_anti _ _ h2 h1)) hF hG h
/-! ### sizes -/
theorem divsOne_small : ∀ m, 3 ≤ m → m < 90 → 2 ^ (divsOne m).length ≤ m * m := by
  have : ∀ m ∈ List.range 90, m < 3 ∨ 2 ^ (divsOne m).length ≤ m * m := by decide +kernel
  intro m h1 h2
  rcases this m (List.mem_range.mpr h2) with h | h
  · omega
  · exact h
theorem prod_le_mem : ∀ {L : List Nat}, (∀ m ∈ L, 3 ≤ m) → ∀ m ∈ L, m ≤ prodN L := fun {L} h m hm => Nat.le_of_dvd (prod_pos h) (dvd_prod hm)
theorem divs_len : ∀ {L : List Nat}, (∀ m ∈ L, 3 ≤ m) → (∀ m ∈ L, m < 90) → 2 ^ (L.flatMap divsOne).length ≤ prodN L * prodN L
  | [], _, _ => by decide
  | m :: L, h1, h2 => by
    have ih := divs_len (fun x hx => h1 x (List.mem_cons_of_mem _ hx)) (fun x hx => h2 x (List.mem_cons_of_mem _ hx))
    have hm := divsOne_small m (h1 m List.mem_cons_self) (h2 m List.mem_cons_self)
    rw [List.flatMap_cons, List.length_append, Nat.pow_add]
    show _ ≤ m * prodN L * (m * prodN L)
    calc _ ≤ m * m * (prodN L * prodN L) := Nat.mul_le_mul hm ih
      _ = _ := by rw [Nat.mul_assoc, Nat.mul_assoc, Nat.mul_left_comm m (prodN L) (prodN L)]
theorem divs_pow {L : List Nat} (hL : Lot L) (hW : prodN L < 90) : 2 ^ (divs L).length ≤ 8100 := by
  unfold divs
  rw [(srt_perm _).length_eq]
  refine Nat.le_trans (divs_len hL.big fun m hm => Nat.lt_of_le_of_lt (prod_le_mem hL.big m hm) hW) ?_
  calc _ ≤ 90 * 90 := Nat.mul_le_mul (by omega) (by omega)
    _ = 8100 := rfl
theorem coarse_len {L : List Nat} (hL : Lot L) (hW : prodN L < 90) : (coarse L).length ≤ 8100 := Nat.le_trans (lotsOf_len _) (divs_pow hL hW)
theorem top_lt {L : List Nat} (hL : Lot L) (hW : prodN L < 90) : top L < 90 := by
  rcases top_mem L 3 with h | h
  · unfold top; omega
  · exact Nat.lt_of_le_of_lt (prod_le_mem hL.big _ h) hW
theorem stepS_prod : ∀ (L : List Nat) (c : Int), (∀ m ∈ L, 3 ≤ m) → prodN (stepS L c) ≤ prodN L := by
  have pp : ∀ {l m : List Nat}, l.Perm m → prodN l = prodN m := fun {l m} h => by
    induction h with
    | nil => rfl
    | cons x _ ih => exact congrArg (x * ·) ih
    | swap x y l => exact Nat.mul_left_comm _ _ _
    | trans _ _ a b => exact a.trans b
  have app : ∀ l m, prodN (l ++ m) = prodN l * prodN m := fun l m => by
    induction l with
    | nil => exact (Nat.one_mul _).symm
    | cons x l ih =>
      show x * prodN (l ++ m) = x * prodN l * prodN m
      rw [ih, Nat.mul_assoc]
  have fil : ∀ l : List Nat, (∀ m ∈ l, 0 < m) → prodN (l.filter keep) ≤ prodN l := by
    intro l
    induction l with
    | nil => exact fun _ => Nat.le_refl _
    | cons x l ih =>
      intro h
      have ih := ih fun m hm => h m (List.mem_cons_of_mem _ hm)
      have hx := h x List.mem_cons_self
      rw [List.filter_cons]
      by_cases c : keep x = true
      · rw [if_pos c]
        exact Nat.mul_le_mul_left x ih
      · rw [if_neg c]
        show _ ≤ x * prodN l
        calc _ ≤ 1 * prodN l := by rw [Nat.one_mul]; exact ih
          _ ≤ x * prodN l := Nat.mul_le_mul_right _ hx
  intro L c hL
  have pd : prodN (pend L c) ≤ prodN L ∧ ∀ m ∈ pend L c, 0 < m := by
    induction L with
    | nil => exact ⟨Nat.le_refl _, fun m h => by cases h⟩
    | cons o L ih =>
      obtain ⟨i1, i2⟩ := ih fun m hm => hL m (List.mem_cons_of_mem _ hm)
      have ho := hL o List.mem_cons_self
      have hp : ∀ x, 0 < Nat.gcd o x := fun x => Nat.gcd_pos_of_pos_left x (by omega)
      constructor
      · unfold pend
        rw [List.flatMap_cons, app]
        show Nat.gcd o c.natAbs * (Nat.gcd o (c - 1).natAbs * 1) * _ ≤ o * prodN L
        refine Nat.mul_le_mul ?_ i1
        rw [Nat.mul_one]
        refine Nat.le_of_dvd (by omega) ?_
        exact Nat.Coprime.mul_dvd_of_dvd_of_dvd (cop_of_dvd (gcd_next c) (Nat.gcd_dvd_right _ _) (Nat.gcd_dvd_right _ _)) (Nat.gcd_dvd_left _ _) (Nat.gcd_dvd_left _ _)
      · intro m hm
        unfold pend at hm
        rw [List.flatMap_cons] at hm
        rcases List.mem_append.mp hm with h | h
        · have h' : m = Nat.gcd o c.natAbs ∨ m = Nat.gcd o (c - 1).natAbs := by simpa [ends] using h
          rcases h' with rfl | rfl
          · exact hp _
          · exact hp _
        · exact i2 m h
  unfold stepS step1
  rw [pp (srt_perm _)]
  exact Nat.le_trans (fil _ pd.2) pd.1
/-- bounded counts have bounded parts -/
theorem parts_bound {B : Nat} : ∀ (cs : List Int) (f : List Nat), (∀ c ∈ cs, c.natAbs ≤ B ∧ (c - 1).natAbs ≤ B) → (∀ o ∈ f, o ≤ B) → ∀ o ∈ cs.foldl stepS f, o ≤ B
  | [], f, _, hf => hf
  | c :: cs, f, hc, hf => by
    refine parts_bound cs _ (fun d hd => hc d (List.mem_cons_of_mem _ hd)) fun o ho => ?_
    unfold stepS step1 pend at ho
    obtain ⟨h1, _⟩ := List.mem_filter.mp ((srt_perm _).mem_iff.mp ho)
    obtain ⟨o', ho', h2⟩ := List.mem_flatMap.mp h1
    obtain ⟨b1, b2⟩ := hc c List.mem_cons_self
    have hb := hf o' ho'
    have gb : ∀ x, x ≤ B → Nat.gcd o' x ≤ B := fun x hx => by
      by_cases z : o' = 0
      · rw [z, Nat.gcd_zero_left]
        exact hx
      · exact Nat.le_trans (Nat.le_of_dvd (by omega) (Nat.gcd_dvd_left _ _)) hb
    have h' : o = Nat.gcd o' c.natAbs ∨ o = Nat.gcd o' (c - 1).natAbs := by simpa [ends] using h2
    rcases h' with rfl | rfl
    · exact gb _ b1
    · exact gb _ b2
end M45
namespace K45
open PySem L2 M45
/-! ### the text by places -/
def topS (i : Nat) : Stmt := PySem.Challenge.pw_batchnumbers_k45_whole_best_questions.main.body.getD i (.Pass ⟨0, 0, 0, 0⟩)
/-! ### what callers need of a def -/
structure Callee (P : Program) (w : World) (K : PySem.W.Frag) (mg : Str → Option Value) (base : Heap) (CX : CXT) (k : Nat) (x : Str) (ps : List Str) (sp : Sp) : Prop where
  ex : ∃ (f : Addr) (fd : FuncData), FnOk P w K mg base CX k f fd ps sp ∧ Binds K fd ps [] ∧ mg x = some (.ref f) ∧ PySem.W.keepIn K (.ref f) = true
/-- the names that are still the built-in ones -/
structure Nms (mg : Str → Option Value) : Prop where
  len : mg "len" = none
  abs : mg "abs" = none
  int : mg "int" = none
  bool : mg "bool" = none
  list : mg "list" = none
  tuple : mg "tuple" = none
  range : mg "range" = none
  sorted : mg "sorted" = none
  isinstance : mg "isinstance" = none
  max : mg "max" = none
  all : mg "all" = none
  any : mg "any" = none
  repr : mg "repr" = none
theorem bLen : bootBuiltins "len" = some (.builtin "len") := by decide +kernel
theorem bAbs : bootBuiltins "abs" = some (.builtin "abs") := by decide +kernel
theorem bMax : bootBuiltins "max" = some (.builtin "max") := by decide +kernel
theorem bAll : bootBuiltins "all" = some (.builtin "all") := by decide +kernel
theorem bAny : bootBuiltins "any" = some (.builtin "any") := by decide +kernel
theorem bRepr : bootBuiltins "repr" = some (.builtin "repr") := by decide +kernel
theorem bSorted : bootBuiltins "sorted" = some (.builtin "sorted") := by decide +kernel
theorem bIsi : bootBuiltins "isinstance" = some (.builtin "isinstance") := by decide +kernel
theorem bInt : bootBuiltins "int" = some (.type "int") := by decide +kernel
theorem bBool : bootBuiltins "bool" = some (.type "bool") := by decide +kernel
theorem bList : bootBuiltins "list" = some (.type "list") := by decide +kernel
theorem bTuple : bootBuiltins "tuple" = some (.type "tuple") := by decide +kernel
/-! ### lists -/
theorem take_snoc {α : Type} : ∀ {l : List α} {i : Nat} {x : α}, l[i]? = some x → l.take (i + 1) = l.take i ++ [x]
  | [], i, x, h => by simp at h
  | a :: l, 0, x, h => by
    have e : a = x := Option.some.inj h
    rw [e]
    rfl
  | a :: l, i + 1, x, h => congrArg (a :: ·) (take_snoc (l := l) (i := i) h)
theorem map_at {α β : Type} {f : α → β} {l : List α} {i : Nat} {y : β} (h : (l.map f)[i]? = some y) : ∃ x, l[i]? = some x ∧ y = f x := by
  rw [List.getElem?_map] at h
  cases e : l[i]? with
  | none =>
    rw [e] at h
    cases h
  | some x =>
    rw [e] at h
    exact ⟨x, rfl, (Option.some.inj h).symm⟩
theorem at_lt {α : Type} {l : List α} {i : Nat} {x : α} (h : l[i]? = some x) : i < l.length := (List.getElem?_eq_some_iff.mp h).1
theorem at_mem {α : Type} {l : List α} {i : Nat} {x : α} (h : l[i]? = some x) : x ∈ l := List.mem_of_getElem? h
theorem take_all {α : Type} (l : List α) : l.take l.length = l := List.take_length
theorem sz {n : Nat} (h : n ≤ 100000) : n ≤ sizeLine := Nat.le_trans h (by decide)
theorem szl {n : Nat} (h : n < 100000) : n < sizeLine := Nat.lt_of_lt_of_le h (by decide)
/-! ### heaps -/
theorem Same.tup {K : PySem.W.Frag} {H H' : Hp} {a : Addr} {xs : List V} (e : Same H H') (h : SqT K H a xs) : SqT K H' a xs := by
  rcases (h) with (h | ⟨o, h⟩) | h
  · exact .inl (.inl (e _ _ h))
  · exact (.inl (.inr ⟨o, e _ _ h⟩))
  · exact .inr h
theorem same_new {H : Hp} {p : Addr} {o : HO} (h : H p = none) : Same H (upd H p o) := fun b u e => by
  rw [upd_ne (ne_of_none e h)]
  exact e
theorem same_mut {H H' : Hp} {p : Addr} {o : HO} (e : Same H H') (h : H p = none) : Same H (upd H' p o) := fun b u x => by
  rw [upd_ne (ne_of_none x h)]
  exact e b u x
/-- a comprehension under way: its list at D -/
structure Cw (H1 : Hp) (D : Addr) (out : List V) (H : Hp) : Prop where
  free : H1 D = none
  same : Same H1 H
  here : H D = some (.lst out)
theorem Cw.start {H1 : Hp} {D : Addr} (h : H1 D = none) : Cw H1 D [] (upd H1 D (.lst [])) := ⟨h, same_new h, upd_same⟩
theorem Cw.put {H1 H H4 : Hp} {D : Addr} {out out' : List V} {y : V} (c : Cw H1 D out H) (s : Same H H4) (hz : out.length < 100000) (e : out' = out ++ [y]) :
    ∃ acc, H4 D = some (.lst acc) ∧ acc.length < sizeLine ∧ Cw H1 D out' (upd H4 D (.lst (acc ++ [y]))) :=
  ⟨out, s _ _ c.here, szl hz, c.free, same_mut (c.same.trans s) c.free, by rw [e]; exact upd_same⟩
theorem Cw.skip {H1 H H4 : Hp} {D : Addr} {out out' : List V} (c : Cw H1 D out H) (s : Same H H4) (e : out' = out) : Cw H1 D out' H4 :=
  ⟨c.free, c.same.trans s, by rw [e]; exact s _ _ c.here⟩
/-! ### lists and tuples of ints, lists of tuples -/
abbrev vI (ns : List Int) : List V := ns.map V.int
abbrev vN (ns : List Nat) : List V := vI (iN ns)
def TupN (H : Hp) (x : V) (A : List Nat) : Prop := ∃ t, x = .ref t ∧ H t = some (.tup (vN A))
theorem TupN.mono {H H' : Hp} {x : V} {A : List Nat} (h : TupN H x A) (s : Same H H') : TupN H' x A := let ⟨t, e, z⟩ := h; ⟨t, e, s _ _ z⟩
abbrev TsAt (H : Hp) : List V → List (List Nat) → Prop := Paired (TupN H)
theorem TsAt.mono {H H' : Hp} (s : Same H H') : ∀ {xs : List V} {F : List (List Nat)}, TsAt H xs F → TsAt H' xs F
  | _, _, .nil => .nil
  | _, _, .cons r t => .cons (TupN.mono r s) (TsAt.mono s t)
theorem TsAt.get {H : Hp} : ∀ {xs : List V} {F : List (List Nat)} {i : Nat} {x : V}, TsAt H xs F → xs[i]? = some x → ∃ A, F[i]? = some A ∧ TupN H x A
  | _, _, _, _, .nil, e => absurd e (by simp)
  | _, _, 0, _, .cons r _, e => by
    have e := Option.some.inj e
    subst e
    exact ⟨_, rfl, r⟩
  | _, _, i + 1, _, .cons _ t, e => TsAt.get (i := i) t e
theorem TsAt.len {H : Hp} {xs : List V} {F : List (List Nat)} (h : TsAt H xs F) : xs.length = F.length := Paired.length h
theorem TsAt.app {H : Hp} : ∀ {xs ys : List V} {F G : List (List Nat)}, TsAt H xs F → TsAt H ys G → TsAt H (xs ++ ys) (F ++ G)
  | _, _, _, _, .nil, s => s
  | _, _, _, _, .cons r t, s => .cons r (TsAt.app t s)
theorem TsAt.one {H : Hp} {x : V} {A : List Nat} (h : TupN H x A) : TsAt H [x] [A] := .cons h .nil
def intV : V → Option Int
  | .int i => some i
  | _ => none
theorem intV_all : ∀ ns : List Int, (vI ns).filterMap intV = ns
  | [] => rfl
  | n :: ns => by
    show n :: (vI ns).filterMap intV = n :: ns
    rw [intV_all ns]
/-- what a reference to a tuple of ints stands for -/
def keyOf (H : Hp) : V → List Int
  | .ref t => match H t with
    | some (.tup ys) => ys.filterMap intV
    | _ => []
  | _ => []
theorem keyOf_tup {H : Hp} {x : V} {A : List Nat} (h : TupN H x A) : keyOf H x = iN A := by
  obtain ⟨t, rfl, e⟩ := h
  unfold keyOf
  simp only [e]
  exact intV_all _
theorem TsAt.keys {H : Hp} : ∀ {xs : List V} {F : List (List Nat)}, TsAt H xs F → F = xs.map fun x => (keyOf H x).map Int.toNat
  | _, _, .nil => rfl
  | _, _, .cons (a := x) (b := A) r t => by
    rw [List.map_cons, ← TsAt.keys t, keyOf_tup r]
    congr 1
    rw [List.map_map]
    refine ((List.map_congr_left fun a _ => ?_).trans (List.map_id A)).symm
    show ((a : Int)).toNat = a
    omega
theorem TsAt.mem {H : Hp} : ∀ {xs : List V} {F : List (List Nat)}, TsAt H xs F → ∀ x ∈ xs, ∃ A ∈ F, TupN H x A
  | _, _, .nil, x, h => by cases h
  | _, _, .cons r t, x, h => by
    rcases (List.mem_cons.mp h) with rfl | h
    · exact ⟨_, List.mem_cons_self, r⟩
    · obtain ⟨A, hA, z⟩ := TsAt.mem t x h
      exact ⟨A, List.mem_cons_of_mem _ hA, z⟩
theorem TsAt.of_mem {H : Hp} : ∀ {ys : List V}, (∀ y ∈ ys, ∃ A, TupN H y A) → TsAt H ys (ys.map fun x => (keyOf H x).map Int.toNat)
  | [], _ => .nil
  | y :: ys, h => by
    obtain ⟨A, hA⟩ := h y List.mem_cons_self
    refine .cons ?_ (TsAt.of_mem fun z hz => h z (List.mem_cons_of_mem _ hz))
    have e : (keyOf H y).map Int.toNat = A := by
      have := TsAt.keys (TsAt.one hA)
      exact ((List.cons.inj this).1).symm
    show TupN H y ((keyOf H y).map Int.toNat)
    rw [e]
    exact hA
/-- behind sorted: the lots in their order -/
theorem sorted_lots {H : Hp} {xs ys : List V} {F : List (List Nat)} (h : TsAt H xs F) (p : ys.Perm xs) (s : ys.Pairwise fun x y => HT.lexLt (keyOf H y) (keyOf H x) = false) :
    ∃ G, TsAt H ys G ∧ G.Perm F ∧ LexS G := by
  have hm : ∀ y ∈ ys, ∃ A, TupN H y A := fun y hy => let ⟨A, _, z⟩ := h.mem y (p.mem_iff.mp hy); ⟨A, z⟩
  refine ⟨_, TsAt.of_mem hm, ?_, ?_⟩
  · rw [h.keys]
    exact p.map _
  · refine List.pairwise_map.mpr (List.Pairwise.imp_of_mem (fun {a b} ha hb z => ?_) s)
    obtain ⟨A, hA⟩ := hm a ha
    obtain ⟨B, hB⟩ := hm b hb
    have ea : (keyOf H a).map Int.toNat = A := ((List.cons.inj (TsAt.keys (TsAt.one hA))).1).symm
    have eb : (keyOf H b).map Int.toNat = B := ((List.cons.inj (TsAt.keys (TsAt.one hB))).1).symm
    rw [ea, eb]
    rw [keyOf_tup hA, keyOf_tup hB] at z
    exact z
theorem sort_args {H : Hp} {xs : List V} {F : List (List Nat)} (h : TsAt H xs F) : ∀ x ∈ xs, ∃ t, x = V.ref t ∧ H t = some (.tup ((keyOf H x).map V.int)) := fun x hx => by
  obtain ⟨A, _, z⟩ := h.mem x hx
  rw [keyOf_tup z]
  exact z
theorem sort_heads {H : Hp} {xs : List V} {F : List (List Nat)} (h : TsAt H xs F) (hF : (∀ A ∈ F, A ≠ []) ∨ ∃ r, F = [] :: r) : (∀ x ∈ xs, keyOf H x ≠ []) ∨ ∃ x r, xs = x :: r ∧ keyOf H x = [] := by
  rcases hF with hF | ⟨r, rfl⟩
  · refine .inl fun x hx e => ?_
    obtain ⟨A, hA, z⟩ := h.mem x hx
    rw [keyOf_tup z] at e
    exact hF A hA (iN_inj (m := []) e)
  · cases h with
    | cons z t => exact .inr ⟨_, _, rfl, keyOf_tup z⟩
end K45
namespace K45
open PySem L2 M45
/-! ### the loops of comprehensions, whatever a turn does -/
theorem loopT {K : PySem.W.Frag} {a : Addr} {xs : List V} {Done : Hp → Prop} {Body : V → Hp → (Hp → Prop) → Prop} {Hs : Hp} (Pv : Nat → Hp → Prop) (h0 : Pv 0 Hs) (hl : ∀ i H, i ≤ xs.length → Pv i H → SqT K H a xs)
    (hs : ∀ i x H, xs[i]? = some x → Pv i H → Body x H (Pv (i + 1))) (hd : ∀ H, Pv xs.length H → Done H) :
    ∃ W : Nat → Nat → Hp → Prop, (∃ m, W 0 m Hs) ∧ ∀ i m H, W i m H →
      ((Itt K a).stop i H ∧ Done H) ∨ ((Itt K a).go i H ∧ ∃ Nx : Hp → Prop, (∀ H', Nx H' → ∃ m', m' < m ∧ W (i + 1) m' H') ∧ ∀ x H', (Itt K a).yld i H x H' → Body x H' Nx) := by
  refine ⟨fun i m H => m = xs.length - i ∧ i ≤ xs.length ∧ Pv i H, ⟨_, rfl, Nat.zero_le _, h0⟩, fun i m H => ?_⟩
  rintro ⟨rfl, hi, p⟩
  have q := hl i H hi p
  by_cases c : i < xs.length
  · exact .inr ⟨⟨xs, xs[i], q, by simp [c]⟩, Pv (i + 1), fun H' p' => ⟨xs.length - (i + 1), by omega, rfl, c, p'⟩, fun x H' y => by
      obtain ⟨rfl, y⟩ := y
      exact hs i x _ (y xs q) p⟩
  · have e : i = xs.length := by (omega)
    subst e
    exact (.inl ⟨⟨xs, q, Nat.le_refl _⟩, hd H p⟩)
theorem loopL {K : PySem.W.Frag} {a : Addr} {xs : List V} {Done : Hp → Prop} {Body : V → Hp → (Hp → Prop) → Prop} {Hs : Hp} (Pv : Nat → Hp → Prop) (h0 : Pv 0 Hs) (hl : ∀ i H, i ≤ xs.length → Pv i H → SqL K H a xs)
    (hs : ∀ i x H, xs[i]? = some x → Pv i H → Body x H (Pv (i + 1))) (hd : ∀ H, Pv xs.length H → Done H) :
    ∃ W : Nat → Nat → Hp → Prop, (∃ m, W 0 m Hs) ∧ ∀ i m H, W i m H →
      ((Itl K a).stop i H ∧ Done H) ∨ ((Itl K a).go i H ∧ ∃ Nx : Hp → Prop, (∀ H', Nx H' → ∃ m', m' < m ∧ W (i + 1) m' H') ∧ ∀ x H', (Itl K a).yld i H x H' → Body x H' Nx) := by
  refine ⟨fun i m H => m = xs.length - i ∧ i ≤ xs.length ∧ Pv i H, ⟨_, rfl, Nat.zero_le _, h0⟩, fun i m H => ?_⟩
  rintro ⟨rfl, hi, p⟩
  have q := hl i H hi p
  by_cases c : i < xs.length
  · exact .inr ⟨⟨xs, xs[i], q, by simp [c]⟩, Pv (i + 1), fun H' p' => ⟨xs.length - (i + 1), by omega, rfl, c, p'⟩, fun x H' y => by
      obtain ⟨rfl, y⟩ := y
      exact hs i x _ (y xs q) p⟩
  · have e : i = xs.length := by (omega)
    subst e
    exact (.inl ⟨⟨xs, q, Nat.le_refl _⟩, hd H p⟩)
theorem loopR {lo : Int} {n : Nat} {Done : Hp → Prop} {Body : V → Hp → (Hp → Prop) → Prop} {Hs : Hp} (Pv : Nat → Hp → Prop) (h0 : Pv 0 Hs)
    (hs : ∀ i H, i < n → Pv i H → Body (.int (lo + i)) H (Pv (i + 1))) (hd : ∀ H, Pv n H → Done H) :
    ∃ W : Nat → Nat → Hp → Prop, (∃ m, W 0 m Hs) ∧ ∀ i m H, W i m H →
      ((Itr lo n).stop i H ∧ Done H) ∨ ((Itr lo n).go i H ∧ ∃ Nx : Hp → Prop, (∀ H', Nx H' → ∃ m', m' < m ∧ W (i + 1) m' H') ∧ ∀ x H', (Itr lo n).yld i H x H' → Body x H' Nx) := by
  refine ⟨fun i m H => m = n - i ∧ i ≤ n ∧ Pv i H, ⟨_, rfl, Nat.zero_le _, h0⟩, fun i m H => ?_⟩
  rintro ⟨rfl, hi, p⟩
  by_cases c : i < n
  · exact .inr ⟨c, Pv (i + 1), fun H' p' => ⟨n - (i + 1), by omega, rfl, c, p'⟩, fun x H' y => by
      obtain ⟨rfl, rfl⟩ := y
      exact hs i _ c p⟩
  · have e : i = n := by omega
    subst e
    exact (.inl ⟨Nat.le_refl _, hd H p⟩)
/-! ### data that == compares -/
def dI (ns : List Int) : List PyData := ns.map PyData.int
theorem dI_lay : ∀ ns : List Int, PyData.canLayAll0 (dI ns) = true
  | [] => rfl
  | n :: ns => by
    show (PyData.canLay0 (.int n) && PyData.canLayAll0 (dI ns)) = true
    rw [dI_lay ns]
    rfl
theorem dI_depth : ∀ ns : List Int, PyData.depthAll (dI ns) = 0
  | [] => rfl
  | n :: ns => by
    show max (PyData.depth (.int n)) (PyData.depthAll (dI ns)) = 0
    rw [dI_depth ns]
    rfl
theorem shp_list {ds : List PyData} (h : PyData.canLayAll0 ds = true) (hd : PyData.depthAll ds ≤ 60) : SeqAt.shaped (.list ds) = true := by
  have h1 : PyData.canLay0 (.list ds) = true := by rw [PyData.canLay0]; exact h
  have h2 : PyData.depth (.list ds) ≤ 64 := by rw [PyData.depth]; omega
  unfold SeqAt.shaped
  rw [h1, decide_eq_true h2]
  rfl
theorem shp_tup {ds : List PyData} (h : PyData.canLayAll0 ds = true) (hd : PyData.depthAll ds ≤ 60) : SeqAt.shaped (.tuple ds) = true := by
  have h1 : PyData.canLay0 (.tuple ds) = true := by rw [PyData.canLay0]; exact h
  have h2 : PyData.depth (.tuple ds) ≤ 64 := by rw [PyData.depth]; omega
  unfold SeqAt.shaped
  rw [h1, decide_eq_true h2]
  rfl
theorem shp_ints (ns : List Int) : SeqAt.shaped (.list (dI ns)) = true := shp_list (dI_lay ns) (by rw [dI_depth]; omega)
theorem eqv_ints : ∀ ns ms : List Int, PyData.eqvAll (dI ns) (dI ms) = decide (ns = ms)
  | [], [] => rfl
  | [], _ :: _ => rfl
  | _ :: _, [] => rfl
  | n :: ns, m :: ms => by
    show (PyData.eqv (.int n) (.int m) && PyData.eqvAll (dI ns) (dI ms)) = _
    rw [eqv_ints ns ms]
    have : PyData.eqv (.int n) (.int m) = decide (n = m) := by
      rw [PyData.eqv]
      by_cases e : n = m <;> simp [e]
    rw [this]
    by_cases e : n = m <;> by_cases f : ns = ms <;> simp [e, f]
theorem eqv_list_ints (ns ms : List Int) : PyData.eqv (.list (dI ns)) (.list (dI ms)) = decide (ns = ms) := by
  rw [PyData.eqv, eqv_ints]
theorem eqv_list_nil (ds : List PyData) : PyData.eqv (.list ds) (.list []) = decide (ds = []) := by
  rw [PyData.eqv]
  cases ds with
  | nil => rfl
  | cons d ds => rfl
theorem dp_ints {K : PySem.W.Frag} {H : Hp} : ∀ ns : List Int, DpAll K H (vI ns) (dI ns)
  | [] => .nil
  | n :: ns => .cons (.int n) (dp_ints ns)
theorem dp_listI {K : PySem.W.Frag} {H : Hp} {p : Addr} {ns : List Int} (h : H p = some (.lst (vI ns))) : Dp K H (.ref p) (.list (dI ns)) := .lst (SqL.of h) (dp_ints ns)
theorem dp_tupI {K : PySem.W.Frag} {H : Hp} {p : Addr} {ns : List Int} (h : H p = some (.tup (vI ns))) : Dp K H (.ref p) (.tuple (dI ns)) := .tup (SqT.of h) (dp_ints ns)
/-- a list of lots -/
def dL (F : List (List Nat)) : List PyData := F.map fun A => .tuple (dI (iN A))
theorem dp_lots {K : PySem.W.Frag} {H : Hp} : ∀ {xs : List V} {F : List (List Nat)}, TsAt H xs F → DpAll K H xs (dL F)
  | _, _, .nil => .nil
  | _, _, .cons ⟨_, e, z⟩ t => by
    subst e
    exact .cons (dp_tupI z) (dp_lots t)
theorem dL_lay : ∀ F : List (List Nat), PyData.canLayAll0 (dL F) = true
  | [] => rfl
  | A :: F => by
    show (PyData.canLay0 (.tuple (dI (iN A))) && PyData.canLayAll0 (dL F)) = true
    rw [dL_lay F, PyData.canLay0, dI_lay]
    rfl
theorem dL_depth : ∀ F : List (List Nat), PyData.depthAll (dL F) ≤ 1
  | [] => Nat.zero_le _
  | A :: F => by
    have h : PyData.depthAll (dL (A :: F)) = max (PyData.depth (.tuple (dI (iN A)))) (PyData.depthAll (dL F)) := rfl
    have h1 : PyData.depth (.tuple (dI (iN A))) = 1 := by rw [PyData.depth, dI_depth]
    have h2 := dL_depth F
    rw [h, h1]
    omega
theorem shp_lots (F : List (List Nat)) : SeqAt.shaped (.list (dL F)) = true := shp_list (dL_lay F) (by have := dL_depth F; omega)
theorem shp_lotsT (F : List (List Nat)) : SeqAt.shaped (.tuple (dL F)) = true := shp_tup (dL_lay F) (by have := dL_depth F; omega)
theorem eqvAll_refl {ds : List PyData} (h : PyData.canLayAll0 ds = true) : PyData.eqvAll ds ds = true := SeqAt.eqvAll_refl ds h
theorem eqv_lots (F : List (List Nat)) : PyData.eqv (.list (dL F)) (.list (dL F)) = true := by
  rw [PyData.eqv]
  exact SeqAt.eqvAll_refl _ (dL_lay F)
theorem dL_nil {F : List (List Nat)} : dL F = [] ↔ F = [] := List.map_eq_nil_iff
theorem dI_nil {ns : List Int} : dI ns = [] ↔ ns = [] := List.map_eq_nil_iff
end K45
namespace K45
open PySem L2 M45
abbrev sIsInt : Stmt := topS 5
abbrev sIsSeq : Stmt := topS 6
abbrev sCd : Stmt := topS 7
abbrev sLeaves : Stmt := topS 11
abbrev sWhole : Stmt := topS 13
section
variable {base : Heap} {P : Program} {w : World} {K : PySem.W.Frag} {mg : Str → Option Value}
/-! is_integer -/
def isI : V → Option Bool
  | .int _ => some true
  | .bl _ => some false
  | .str _ => some false
  | _ => none
def spIsInt : Sp := fun vs H Q _ => ∃ x b, vs = [x] ∧ isI x = some b ∧ Q (.bl b) H
theorem scIsInt : FnScope ["value"] ["value"] (defScope sIsInt) := ⟨rfl, rfl, rfl, by decide +kernel, rfl, by decide +kernel, by decide +kernel⟩
theorem ok_isInt {f : Addr} {fd : FuncData} (F : Fun K "is_integer" "is_integer" sIsInt f fd) (T : Nms mg) : FnOk P w K mg base CX0 1 f fd ["value"] spIsInt := by
  refine F.ok scIsInt (fun vs H Q E h => ?_) (fun cdv A outer s H vs Q E hr h => ?_)
  · obtain ⟨x, b, rfl, _⟩ := h
    rfl
  · obtain ⟨x, b, rfl, hx, k⟩ := h
    refine ⟨_, pss_one (ps_ret (pe_and (pe_callB call_isi (by rfl) T.isinstance bIsi (pa_cons (pv 0) (pa_cons (pe_bltn (v := .ty "int") (by rfl) T.int bInt rfl) pa_nil)))
      (pe_one (pe_not (pe_callB call_isi (by rfl) T.isinstance bIsi (pa_cons (pv 0) (pa_cons (pe_bltn (v := .ty "bool") (by rfl) T.bool bBool rfl) pa_nil))))))), ?_⟩
    cases x with
    | int i =>
      cases hx
      refine ⟨_, rfl, .int i, .ty "int", .type "int", .type "int", true, rfl, .ty _, .base (.int i), kit_ty (by decide +kernel), true, rfl, iteT ?_⟩
      exact ⟨_, rfl, .int i, .ty "bool", .type "int", .type "bool", false, rfl, .ty _, .base (.int i), kit_ty (by decide +kernel), false, rfl, k⟩
    | bl c =>
      cases hx
      refine ⟨_, rfl, .bl c, .ty "int", .type "bool", .type "int", true, rfl, .ty _, .base (.bl c), kit_ty (by decide +kernel), true, rfl, iteT ?_⟩
      exact ⟨_, rfl, .bl c, .ty "bool", .type "bool", .type "bool", true, rfl, .ty _, .base (.bl c), kit_ty (by decide +kernel), true, rfl, k⟩
    | str z =>
      cases hx
      refine ⟨_, rfl, .str z, .ty "int", .type "str", .type "int", false, rfl, .ty _, .base (.str z), kit_ty (by decide +kernel), false, rfl, iteF ?_⟩
      exact k
    | _ => cases hx
/-! common_divisor -/
def spCd : Sp := fun vs H Q _ => ∃ a b : Nat, vs = [.int (a : Int), .int (b : Int)] ∧ Q (.int (Nat.gcd a b : Nat)) H
theorem scCd : FnScope ["one", "other"] ["one", "other"] (defScope sCd) := ⟨rfl, rfl, rfl, by decide +kernel, rfl, by decide +kernel, by decide +kernel⟩
theorem ok_cd {f : Addr} {fd : FuncData} (F : Fun K "common_divisor" "common_divisor" sCd f fd) : FnOk P w K mg base CX0 1 f fd ["one", "other"] spCd := by
  refine F.ok scCd (fun vs H Q E h => ?_) (fun cdv A outer s H vs Q E hr h => ?_)
  · obtain ⟨a, b, rfl, _⟩ := h
    rfl
  · obtain ⟨a, b, rfl, k⟩ := h
    refine ⟨_, pss_cons (ps_while PassesOwn.never (pt_cmpR op_ne (pv 1) pe_int (nomark _)) (pss_one (ps_par (i := 0) (j := 1) rfl scCd.nd rfl rfl (by decide) rfl rfl (pa_cons (pv 1) (pa_cons (pe_op op_mod (pv 0) (pv 1)) pa_nil)) (by rfl))))
      (pss_one (ps_ret (pv 0))), ?_⟩
    refine ⟨fun m σ H' => ∃ x y : Nat, σ = [some (.int (x : Int)), some (.int (y : Int))] ∧ Nat.gcd x y = Nat.gcd a b ∧ H' = H ∧ m = y, ⟨b, a, b, rfl, rfl, rfl, rfl⟩, ?_⟩
    rintro m σ H' ⟨x, y, rfl, hg, rfl, rfl⟩
    refine ⟨_, rfl, rfl, _, rfl, ?_⟩
    by_cases c : m = 0
    · subst c
      refine iteNS rfl ?_
      refine ⟨_, rfl, ?_⟩
      rw [Nat.gcd_zero_right] at hg
      rw [← hg] at k
      exact k
    · have e : (!decide (V.int (m : Int) = V.int 0)) = true := by simp [c]
      rw [e]
      refine iteT ⟨fun σ' H'' => ∃ m', m' < m ∧ ∃ x y : Nat, σ' = [some (.int (x : Int)), some (.int (y : Int))] ∧ Nat.gcd x y = Nat.gcd a b ∧ H'' = H' ∧ m' = y, fun _ _ z => z, ?_⟩
      exact ⟨_, rfl, _, rfl, _, rfl, _, _, rfl, rfl, (by omega), _, _, rfl, x % m, Nat.mod_lt x (by omega), m, x % m, rfl, by rw [← hg, Nat.gcd_comm m, ← Nat.gcd_rec, Nat.gcd_comm], rfl, rfl⟩
/-! whole_of -/
def spWhole : Sp := fun vs H Q _ => ∃ (p : Addr) (L : List Nat), vs = [.ref p] ∧ H p = some (.tup (vN L)) ∧ (∀ m ∈ L, m < 1000000) ∧ Q (.int (prodN L : Nat)) H
theorem scWhole : FnScope ["lot", "found", "modulus"] ["lot"] (defScope sWhole) := ⟨rfl, rfl, rfl, by decide +kernel, rfl, by decide +kernel, by decide +kernel⟩
theorem prod_snoc (L : List Nat) (m : Nat) : prodN (L ++ [m]) = prodN L * m := by
  induction L with
  | nil => exact (Nat.mul_one m).trans (Nat.one_mul m).symm
  | cons x L ih =>
    show x * prodN (L ++ [m]) = x * prodN L * m
    rw [ih, Nat.mul_assoc]
theorem ok_whole {f : Addr} {fd : FuncData} (F : Fun K "whole_of" "whole_of" sWhole f fd) : FnOk P w K mg base CX0 1 f fd ["lot"] spWhole := by
  refine F.ok scWhole (fun vs H Q E h => ?_) (fun cdv A outer s H vs Q E hr h => ?_)
  · obtain ⟨p, L, rfl, _⟩ := h
    rfl
  · obtain ⟨p, L, rfl, hp, hb, k⟩ := h
    refine ⟨_, pss_cons (ps_set (i := 1) scWhole.nd rfl (.inl rfl) pe_int)
      (pss_cons (ps_for PassesOwn.never rfl (pi_tup (pv 0)) (pg_name (i := 2) scWhole.nd rfl (.inl rfl)) (pss_one (ps_set (i := 1) scWhole.nd rfl (.inl rfl) (pe_op op_mul (pv 1) (pv 2)))))
      (pss_one (ps_ret (pv 1)))), ?_⟩
    refine ⟨_, rfl, p, rfl, ⟨_, SqT.of hp⟩, for_tup (K := K) (a := p) (xs := vN L) (fun i σ H' => ∃ v, σ = [some (.ref p), some (.int (prodN (L.take i) : Nat)), v] ∧ H' = H) ⟨none, rfl, rfl⟩ (fun i σ H' _ ⟨_, _, e⟩ => by rw [e]; exact SqT.of hp) ?_ ?_⟩
    · rintro i x σ H' hi ⟨v, rfl, rfl⟩
      obtain ⟨z, hz, rfl⟩ := map_at hi
      obtain ⟨m, hm, rfl⟩ := map_at hz
      have := hb m (at_mem hm)
      refine ⟨_, rfl, _, rfl, _, _, rfl, rfl, .inr ⟨by omega, by omega⟩, some (.int (m : Int)), ?_, rfl⟩
      rw [take_snoc hm, prod_snoc]
      show [_, some (V.int (_ * _)), _] = _
      rw [← Int.natCast_mul]
    · rintro σ H' ⟨v, rfl, rfl⟩
      rw [List.length_map, List.length_map, take_all]
      exact ⟨_, rfl, k⟩
/-! leaves -/
def spLeaves : Sp := fun vs H Q _ => ∃ (p : Addr) (A : List Nat) (c : Int), vs = [.ref p, .int c] ∧ H p = some (.tup (vN A)) ∧ (∀ m ∈ A, 0 < m) ∧ A.length ≤ 1000 ∧ ∀ H', Same H H' → Q (.bl (fit A c)) H'
theorem scLeaves : FnScope ["lot", "count", "modulus"] ["lot", "count"] (defScope sLeaves) := ⟨rfl, rfl, rfl, by decide +kernel, rfl, by decide +kernel, by decide +kernel⟩
theorem ok_leaves {f : Addr} {fd : FuncData} (F : Fun K "leaves" "leaves" sLeaves f fd) (T : Nms mg) : FnOk P w K mg base CX0 1 f fd ["lot", "count"] spLeaves := by
  refine F.ok scLeaves (fun vs H Q E h => ?_) (fun cdv A outer s H vs Q E hr h => ?_)
  · obtain ⟨p, A, c, rfl, _⟩ := h
    rfl
  · obtain ⟨p, L, c, rfl, hp, hb, hl, k⟩ := h
    refine ⟨_, pss_one (ps_ret (pe_callB (cr_all rfl) (by rfl) T.all bAll (pa_cons (pe_lc (own := [("modulus", 2)]) (g := gName 2) (tt := tYes) rfl scLeaves.nd (pi_tup (pv 0)) (blkOk_by (N := ["lot", "count", "modulus"]) (sc := defScope sLeaves) (by decide +kernel))
      (fun _ _ _ _ _ => pg_name (i := 2) scLeaves.nd rfl (Or.inl rfl)) (fun _ _ _ _ _ => pts_nil) (fun _ _ _ _ _ => pe_cmpR op_lt (pe_op op_mod (pv 1) (pv 2)) pe_int (nomark _))) pa_nil))), ?_⟩
    refine ⟨_, rfl, p, rfl, ⟨_, SqT.of hp⟩, fun D hD => lc_tup (K := K) (a := p) (xs := vN L) (fun i H' => Cw H D ((L.take i).map fun (m : Nat) => V.bl (decide (c % (m : Int) < 2))) H') (Cw.start hD) (fun i H' _ cw => SqT.of (cw.same _ _ hp)) ?_ ?_⟩
    · intro i x H' hi cw
      obtain ⟨z, hz, rfl⟩ := map_at hi
      obtain ⟨m, hm, rfl⟩ := map_at hz
      have h0 := hb m (at_mem hm)
      have hlt := at_lt hm
      refine ⟨rfl, ?_⟩
      refine ⟨_, rfl, _, rfl, _, _, rfl, rfl, (by omega), _, _, rfl, rfl, ?_⟩
      refine cw.put (Same.refl _) (by rw [List.length_map, List.length_take]; omega) ?_
      rw [take_snoc hm, List.map_append]
      rfl
    · intro H' cw
      have e : (L.take (vN L).length).map (fun (m : Nat) => V.bl (decide (c % (m : Int) < 2))) = (L.map fun (m : Nat) => decide (c % (m : Int) < 2)).map V.bl := by
        rw [List.length_map, List.length_map, take_all, List.map_map]
        rfl
      refine ⟨D, L.map fun (m : Nat) => decide (c % (m : Int) < 2), rfl, SqL.of (by rw [← e]; exact cw.here), ?_⟩
      have e2 : (L.map fun (m : Nat) => decide (c % (m : Int) < 2)).all id = fit L c := by
        unfold fit
        rw [List.all_map]
        rfl
      rw [e2]
      exact k H' cw.same
end
end K45
namespace K45
open PySem L2 M45
abbrev sIsLot : Stmt := topS 9
abbrev sChLot : Stmt := topS 10
abbrev sFits : Stmt := topS 12
abbrev sChCounts : Stmt := topS 15
section
variable {base : Heap} {P : Program} {w : World} {K : PySem.W.Frag} {mg : Str → Option Value}
/-! is_sequence -/
inductive SeqK (H : Hp) : V → Bool → Prop
  | lst {p : Addr} {xs : List V} (h : H p = some (.lst xs)) : SeqK H (.ref p) true
  | tup {p : Addr} {xs : List V} (h : H p = some (.tup xs)) : SeqK H (.ref p) true
  | non : SeqK H .non false
  | str (z : Str) : SeqK H (.str z) false
  | dic {p : Addr} (h : H p = some (.dK [])) : SeqK H (.ref p) false
theorem SeqK.mono {H H' : Hp} {x : V} {b : Bool} (s : Same H H') : SeqK H x b → SeqK H' x b
  | .lst h => .lst (s _ _ h)
  | .tup h => .tup (s _ _ h)
  | .non => .non
  | .str z => .str z
  | .dic h => .dic (s _ _ h)
def spIsSeq : Sp := fun vs H Q _ => ∃ x b, vs = [x] ∧ SeqK H x b ∧ ∀ H', Same H H' → Q (.bl b) H'
theorem scIsSeq : FnScope ["value"] ["value"] (defScope sIsSeq) := ⟨rfl, rfl, rfl, by decide +kernel, rfl, by decide +kernel, by decide +kernel⟩
theorem kit_lt {a : String} {r1 r2 r : Bool} (h1 : kitB a "list" = some r1) (h2 : kitB a "tuple" = some r2) (h : r = (r1 || r2)) : PySem.W.kitAny K (.type a) [.type "list", .type "tuple"] = some r := by
  refine kitAny_cons (kit_ty h1) (fun e => kitAny_cons (kit_ty h2) (fun e2 => ?_) fun e2 => ?_) fun e => ?_
  · subst e e2 h
    rfl
  · subst e e2 h
    rfl
  · subst e h
    rfl
theorem ok_isSeq {f : Addr} {fd : FuncData} (F : Fun K "is_sequence" "is_sequence" sIsSeq f fd) (T : Nms mg) : FnOk P w K mg base CX0 1 f fd ["value"] spIsSeq := by
  refine F.ok scIsSeq (fun vs H Q E h => ?_) (fun cdv A outer s H vs Q E hr h => ?_)
  · obtain ⟨x, b, rfl, _⟩ := h
    rfl
  · obtain ⟨x, b, rfl, hx, k⟩ := h
    refine ⟨_, pss_one (ps_ret (pe_callB call_isiT (by rfl) T.isinstance bIsi (pa_cons (pv 0) (pa_cons (pe_tup (pa_cons (pe_bltn (v := .ty "list") (by rfl) T.list bList rfl) (pa_cons (pe_bltn (v := .ty "tuple") (by rfl) T.tuple bTuple rfl) pa_nil))) pa_nil)))), ?_⟩
    refine ⟨_, rfl, (by show 2 ≤ sizeLine; decide), fun t ht => ?_⟩
    have s1 : Same H (upd H t (.tup [V.ty "list", V.ty "tuple"])) := same_new ht
    have go : ∀ u, TyX K (upd H t (.tup [V.ty "list", V.ty "tuple"])) x u → PySem.W.kitAny K u [.type "list", .type "tuple"] = some b →
        rIsiT K [x, V.ref t] (upd H t (.tup [V.ty "list", V.ty "tuple"])) Q := fun u ty e =>
      ⟨x, t, _, u, _, b, rfl, upd_same, .cons (.ty _) (.cons (.ty _) .nil), ty, e, k _ s1⟩
    cases hx with
    | lst h => exact go _ (.base (.lst (s1 _ _ h))) (kit_lt (r1 := true) (r2 := false) (by decide +kernel) (by decide +kernel) rfl)
    | tup h => exact go _ (.base (.tup (s1 _ _ h))) (kit_lt (r1 := false) (r2 := true) (by decide +kernel) (by decide +kernel) rfl)
    | non => exact go _ (.base .non) (kit_lt (r1 := false) (r2 := false) (by decide +kernel) (by decide +kernel) rfl)
    | str z => exact go _ (.base (.str z)) (kit_lt (r1 := false) (r2 := false) (by decide +kernel) (by decide +kernel) rfl)
    | dic h => exact go _ (.base (.dK (s1 _ _ h))) (kit_lt (r1 := false) (r2 := false) (by decide +kernel) (by decide +kernel) rfl)
/-! is_lot: asked of lots alone -/
def spIsLot : Sp := fun vs H Q _ => ∃ (p : Addr) (A : List Nat), vs = [.ref p] ∧ H p = some (.tup (vN A)) ∧ A.Pairwise (· ≤ ·) ∧ (∀ m ∈ A, 3 ≤ m) ∧ Cop A ∧ A.length ≤ 100 ∧ ∀ H', Same H H' → Q (.bl true) H'
theorem scIsLot : FnScope ["value", "one", "at"] ["value"] (defScope sIsLot) := ⟨rfl, rfl, rfl, by decide +kernel, rfl, by decide +kernel, by decide +kernel⟩
theorem all_true (k : Nat) : (List.replicate k true).all id = true := by
  rw [List.all_eq_true]
  intro x hx
  exact (List.mem_replicate.mp hx).2
theorem cut_take (xs : List V) (i : Nat) : cutV xs none (some (i : Int)) = xs.take i := by
  unfold cutV
  rw [HT.sIx_none, HT.sIx_nat, Nat.sub_zero, List.drop_zero]
  by_cases h : i ≤ xs.length
  · rw [Nat.min_eq_left h]
  · rw [Nat.min_eq_right (by omega), List.take_length, List.take_of_length_le (by omega)]
theorem ok_isLot {f : Addr} {fd : FuncData} (F : Fun K "is_lot" "is_lot" sIsLot f fd) (T : Nms mg) (C1 : Callee P w K mg base CX0 1 "is_integer" ["value"] spIsInt) (C2 : Callee P w K mg base CX0 1 "common_divisor" ["one", "other"] spCd) :
    FnOk P w K mg base CX0 2 f fd ["value"] spIsLot := by
  obtain ⟨f1, fd1, G1, b1, m1, k1⟩ := C1.ex
  obtain ⟨f2, fd2, G2, b2, m2, k2⟩ := C2.ex
  refine F.ok scIsLot (fun vs H Q E h => ?_) (fun cdv A outer s H vs Q E hr h => ?_)
  · obtain ⟨p, A, rfl, _⟩ := h
    rfl
  · obtain ⟨p, L, rfl, hp, hs, hb, hc, hl, k⟩ := h
    refine ⟨_, pss_cons (ps_if (PW.pt (pw_or (pt_not (pt_val (pe_callB call_isi (by rfl) T.isinstance bIsi (pa_cons (pv 0) (pa_cons (pe_bltn (v := .ty "tuple") (by rfl) T.tuple bTuple rfl) pa_nil)))))
        (pw_or1 (pt_not (pt_val (pe_callB (cr_all rfl) (by rfl) T.all bAll (pa_cons (pe_lc (own := [("one", 1)]) (g := gName 1) (tt := tYes) rfl scIsLot.nd (pi_tup (pv 0)) (blkOk_by (N := ["value", "one", "at"]) (sc := defScope sIsLot) (by decide +kernel))
          (fun _ _ _ _ _ => pg_name (i := 1) scIsLot.nd rfl (Or.inl rfl)) (fun _ _ _ _ _ => pts_nil) (fun _ _ _ _ _ => pe_and (pe_call G1 hr (by rfl) m1 k1 b1 .nil pass0 (pa_cons (pv 1) pa_nil)) (pe_one (pe_cmpR op_gt (pv 1) pe_int (nomark _))))) pa_nil)))))))
        (pss_one (ps_ret pe_bl)) pss_nil)
      (pss_cons (ps_if (pt_cmpR (op_neD hr.units) (pe_callTy call_list_of (by rfl) T.list bList (pa_cons (pv 0) pa_nil)) (pe_callB cr_sortedTu (by rfl) T.sorted bSorted (pa_cons (pv 0) pa_nil)) (nomark _)) (pss_one (ps_ret pe_bl)) pss_nil)
      (pss_one (ps_ret (pe_callB (cr_all rfl) (by rfl) T.all bAll (pa_cons (pe_lc2 (own := [("at", 2), ("one", 1)]) (vs1 := [1]) (g := gName 2) (g1 := gName 1) (tt := tYes) (tt1 := tYes) (wi1 := iTup K (tSl (rSlA K) (tVar 0) tNoPart (tPart (tVar 2)))) rfl scIsLot.nd
          (pi_range1 (by rfl) T.range (pa_cons (pe_callB call_len_seq (by rfl) T.len bLen (pa_cons (pv 0) pa_nil)) pa_nil)) (blkOk_by (N := ["value", "one", "at"]) (sc := defScope sIsLot) (by decide +kernel)) (by decide)
          (fun _ _ _ _ _ => pg_name (i := 2) scIsLot.nd rfl (Or.inl rfl)) (fun _ _ _ _ _ => pts_nil)
          (fun _ _ _ _ _ => pi_tup (pe_slice sl_tupA (pv 0) po_none (po_some (pv 2))))
          (fun _ _ _ _ _ => pg_name (i := 1) scIsLot.nd rfl (Or.inl rfl)) (fun _ _ _ _ _ => pts_nil)
          (fun _ _ _ _ _ => pe_cmpR op_eq (pe_call G2 hr (by rfl) m2 k2 b2 .nil pass0 (pa_cons (pv 1) (pa_cons (pe_ix (r := rIxT K) ix_tup (pv 0) (pv 2) (fun _ _ => rfl)) pa_nil))) pe_int (nomark _))) pa_nil))))), ?_⟩
    -- the kind, the items
    refine ⟨_, rfl, .ref p, .ty "tuple", .type "tuple", .type "tuple", true, rfl, .ty _, .base (.tup hp), kit_ty (by decide +kernel), true, rfl, iteF ?_⟩
    refine ⟨_, rfl, p, rfl, ⟨_, SqT.of hp⟩, fun D hD => loopT (K := K) (a := p) (xs := vN L) (fun i H' => Cw H D (List.replicate i (.bl true)) H') (Cw.start hD) (fun i H' _ cw => SqT.of (cw.same _ _ hp)) ?_ ?_⟩
    · intro i x H' hi cw
      obtain ⟨z, hz, rfl⟩ := map_at hi
      obtain ⟨m, hm, rfl⟩ := map_at hz
      have h3 := hb m (at_mem hm)
      have hlt := at_lt hm
      refine ⟨rfl, ?_⟩
      refine ⟨_, rfl, .int m, true, rfl, rfl, true, rfl, iteT ?_⟩
      refine ⟨_, rfl, _, _, rfl, rfl, ?_⟩
      refine cw.put (Same.refl _) (by rw [List.length_replicate]; omega) ?_
      show _ = _ ++ [V.bl (decide ((2 : Int) < (m : Int)))]
      rw [decide_eq_true (show (2 : Int) < (m : Int) by omega), List.replicate_succ']
    intro H1 cw
    refine ⟨D, List.replicate (vN L).length true, rfl, SqL.of (by rw [List.map_replicate]; exact cw.here), _, rfl, ?_⟩
    rw [all_true]
    refine iteF ?_
    have hp1 := cw.same _ _ hp
    -- ascending
    refine ⟨_, rfl, p, _, rfl, .inr (SqT.of hp1), fun l hl1 => ?_⟩
    have s2 : Same H1 (upd H1 l (.lst (vN L))) := same_new hl1
    refine ⟨_, rfl, p, iN L, rfl, SqT.of (s2 _ _ hp1), fun ns' q hperm hpw hq => ?_⟩
    have e1 : ns' = iN L := by rw [srt_int hperm hpw, srt_sorted hs]
    subst e1
    refine ⟨_, _, dp_listI (same_new hq _ _ upd_same), dp_listI upd_same, shp_ints _, shp_ints _, _, rfl, ?_⟩
    rw [eqv_list_ints, decide_eq_true rfl]
    refine iteF ?_
    have s3 : Same H (upd (upd H1 l (.lst (vN L))) q (.lst (vN L))) := cw.same.trans (s2.trans (same_new hq))
    generalize upd (upd H1 l (.lst (vN L))) q (.lst (vN L)) = H3 at s3 ⊢
    have hp3 := s3 _ _ hp
    -- no common divisors
    refine ⟨_, rfl, p, _, rfl, .inr (SqT.of hp3), _, rfl, by omega, by rw [List.length_map, List.length_map]; omega, fun D2 hD2 => ?_⟩
    refine loopR (lo := 0) (fun i H' => ∃ j, j ≤ i * 100 ∧ Cw H3 D2 (List.replicate j (.bl true)) H') ⟨0, Nat.zero_le _, Cw.start hD2⟩ ?_ ?_
    · rintro i H' hi ⟨j, hj, c2⟩
      have hi' : i < L.length := by
        rw [List.length_map, List.length_map] at hi
        omega
      refine ⟨rfl, ?_⟩
      have hp4 := c2.same _ _ hp3
      have ei : (0 : Int) + (i : Int) = ((i : Nat) : Int) := by omega
      refine ⟨_, rfl, _, rfl, _, rfl, p, vN L, rfl, SqT.of hp4, fun hw => ?_, fun hw q hq => ?_⟩
      · exfalso
        have h2 := hw.2
        rw [ei, HT.sIx_nat, List.length_map, List.length_map] at h2
        omega
      · rw [ei, cut_take]
        have hlen : ((vN L).take i).length = i := by
          rw [List.length_take, List.length_map, List.length_map]
          omega
        have s5 : Same H' (upd H' q (.tup ((vN L).take i))) := same_new hq
        refine ⟨q, rfl, ⟨_, SqT.of upd_same⟩, loopT (K := K) (a := q) (xs := (vN L).take i) (fun j' H'' => Cw H3 D2 (List.replicate (j + j') (.bl true)) H'' ∧ H'' q = some (.tup ((vN L).take i))) ⟨⟨c2.free, c2.same.trans s5, s5 _ _ c2.here⟩, upd_same⟩ (fun _ _ _ z => SqT.of z.2) ?_ ?_⟩
        · rintro j' x H'' hx ⟨c5, hq5⟩
          have hj' := at_lt hx
          rw [hlen] at hj'
          rw [List.getElem?_take_of_lt hj'] at hx
          obtain ⟨z, hz, rfl⟩ := map_at hx
          obtain ⟨b, hbb, rfl⟩ := map_at hz
          obtain ⟨hb1, hb2⟩ := List.getElem?_eq_some_iff.mp hbb
          have hm : (vN L)[i]? = some (.int ((L[i] : Nat) : Int)) := by simp [hi']
          have hg : Nat.gcd b L[i] = 1 := by
            rw [← hb2]
            exact List.pairwise_iff_getElem.mp hc j' i hb1 hi' hj'
          have hp5 := c5.same _ _ hp3
          refine ⟨rfl, ?_⟩
          refine ⟨_, rfl, _, rfl, _, rfl, p, vN L, _, _, rfl, rfl, SqT.of hp5, atI_nat hm, b, L[i], rfl, rfl, ?_⟩
          have hD : H'' D2 = some (.lst (List.replicate (j + j') (.bl true))) := c5.here
          have hqD : q ≠ D2 := fun e => by
            subst e
            rw [hD] at hq5
            cases hq5
          refine ⟨_, hD, szl (by rw [List.length_replicate]; omega), ⟨c5.free, same_mut c5.same c5.free, ?_⟩, by rw [upd_ne hqD]; exact hq5⟩
          rw [hg, upd_same]
          show _ = some (HO.lst (List.replicate (j + (j' + 1)) (.bl true)))
          rw [← Nat.add_assoc, List.replicate_succ']
          rfl
        · rintro H'' ⟨c5, _⟩
          rw [hlen] at c5
          exact ⟨j + i, by omega, c5⟩
    · rintro H' ⟨j, hj, c2⟩
      refine ⟨D2, List.replicate j true, rfl, SqL.of (by rw [List.map_replicate]; exact c2.here), ?_⟩
      rw [all_true]
      exact k H' (s3.trans c2.same)
/-! checked_lot, fits: of lots alone -/
structure LotAt (H : Hp) (p : Addr) (A : List Nat) : Prop where
  at_ : H p = some (.tup (vN A))
  asc : A.Pairwise (· ≤ ·)
  big : ∀ m ∈ A, 3 ≤ m
  cop : Cop A
  len : A.length ≤ 100
theorem LotAt.mono {H H' : Hp} {p : Addr} {A : List Nat} (h : LotAt H p A) (s : Same H H') : LotAt H' p A := ⟨s _ _ h.at_, h.asc, h.big, h.cop, h.len⟩
def spChLot : Sp := fun vs H Q _ => ∃ (p : Addr) (A : List Nat), vs = [.ref p] ∧ LotAt H p A ∧ ∀ H', Same H H' → Q (.ref p) H'
theorem scChLot : FnScope ["value"] ["value"] (defScope sChLot) := ⟨rfl, rfl, rfl, by decide +kernel, rfl, by decide +kernel, by decide +kernel⟩
theorem ok_chLot {f : Addr} {fd : FuncData} (F : Fun K "checked_lot" "checked_lot" sChLot f fd) (C : Callee P w K mg base CX0 2 "is_lot" ["value"] spIsLot) : FnOk P w K mg base CX0 3 f fd ["value"] spChLot := by
  obtain ⟨f1, fd1, G1, b1, m1, k1⟩ := C.ex
  refine F.ok scChLot (fun vs H Q E h => ?_) (fun cdv A outer s H vs Q E hr h => ?_)
  · obtain ⟨p, A, rfl, _⟩ := h
    rfl
  · obtain ⟨p, L, rfl, hp, k⟩ := h
    refine ⟨_, pss_cons (ps_if (pt_not (pt_val (pe_call G1 hr (by rfl) m1 k1 b1 .nil pass0 (pa_cons (pv 0) pa_nil)))) (pss_one ps_never) pss_nil) (pss_one (ps_ret (pv 0))), ?_⟩
    exact ⟨_, rfl, p, L, rfl, hp.at_, hp.asc, hp.big, hp.cop, hp.len, fun H' s => ⟨_, rfl, iteF ⟨_, rfl, k H' s⟩⟩⟩
def spFits : Sp := fun vs H Q _ => ∃ (p : Addr) (A : List Nat) (c : Int), vs = [.ref p, .int c] ∧ LotAt H p A ∧ ∀ H', Same H H' → Q (.bl (fit A c)) H'
theorem scFits : FnScope ["lot", "count"] ["lot", "count"] (defScope sFits) := ⟨rfl, rfl, rfl, by decide +kernel, rfl, by decide +kernel, by decide +kernel⟩
theorem ok_fits {f : Addr} {fd : FuncData} (F : Fun K "fits" "fits" sFits f fd) (C1 : Callee P w K mg base CX0 3 "checked_lot" ["value"] spChLot) (C2 : Callee P w K mg base CX0 1 "leaves" ["lot", "count"] spLeaves) :
    FnOk P w K mg base CX0 4 f fd ["lot", "count"] spFits := by
  obtain ⟨f1, fd1, G1, b1, m1, k1⟩ := C1.ex
  obtain ⟨f2, fd2, G2, b2, m2, k2⟩ := C2.ex
  refine F.ok scFits (fun vs H Q E h => ?_) (fun cdv A outer s H vs Q E hr h => ?_)
  · obtain ⟨p, A, c, rfl, _⟩ := h
    rfl
  · obtain ⟨p, L, c, rfl, hp, k⟩ := h
    refine ⟨_, pss_one (ps_ret (pe_call G2 (hr.mono (by decide)) (by rfl) m2 k2 b2 .nil pass0 (pa_cons (pe_call G1 hr (by rfl) m1 k1 b1 .nil pass0 (pa_cons (pv 0) pa_nil)) (pa_cons (pv 1) pa_nil)))), ?_⟩
    exact ⟨_, rfl, p, L, rfl, hp, fun H1 s1 => ⟨_, rfl, p, L, c, rfl, s1 _ _ hp.at_, fun m hm => by have := hp.big m hm; omega, by have := hp.len; omega, fun H2 s2 => k H2 (s1.trans s2)⟩⟩
/-! checked_counts: ints, or what is refused -/
/-- no sequence of ints -/
inductive Bad (H : Hp) : V → Prop
  | not {x : V} (h : SeqK H x false) : Bad H x
  | lst {p : Addr} {y : V} (h : H p = some (.lst [y])) (hy : isI y = some false) : Bad H (.ref p)
  | tup {p : Addr} {y : V} (h : H p = some (.tup [y])) (hy : isI y = some false) : Bad H (.ref p)
theorem Bad.mono {H H' : Hp} {x : V} (s : Same H H') : Bad H x → Bad H' x
  | .not h => .not (h.mono s)
  | .lst h hy => .lst (s _ _ h) hy
  | .tup h hy => .tup (s _ _ h) hy
inductive IntsAt (H : Hp) : V → List Int → Prop
  | lst {p : Addr} {ns : List Int} (h : H p = some (.lst (vI ns))) : IntsAt H (.ref p) ns
  | tup {p : Addr} {ns : List Int} (h : H p = some (.tup (vI ns))) : IntsAt H (.ref p) ns
theorem IntsAt.mono {H H' : Hp} {x : V} {ns : List Int} (s : Same H H') : IntsAt H x ns → IntsAt H' x ns
  | .lst h => .lst (s _ _ h)
  | .tup h => .tup (s _ _ h)
/-- an error of the class at C flies, its field at is i -/
def Flies (C : Addr) (i : Int) (H : Hp) (E : XK) : Prop := ∀ (d : Addr) (H' : Hp), Same H H' → H' d = some (.xd (atF (.int i))) → E (.ref C) (some d) H'
theorem Flies.mono {C : Addr} {i : Int} {H H1 : Hp} {E : XK} (f : Flies C i H E) (s : Same H H1) : Flies C i H1 E := fun d H' s' h => f d H' (s.trans s') h
def spChC (CQ : Addr) : Sp := fun vs H Q E => ∃ x, vs = [x] ∧
  ((∃ ns, IntsAt H x ns ∧ ns.length ≤ 1000 ∧ ∀ q H', Same H H' → H' q = some (.tup (vI ns)) → Q (.ref q) H') ∨ (Bad H x ∧ Flies CQ 0 H E))
theorem scChC : FnScope ["value", "count"] ["value"] (defScope sChCounts) := ⟨rfl, rfl, rfl, by decide +kernel, rfl, by decide +kernel, by decide +kernel⟩
theorem ok_chC {f CQ fI : Addr} {fd : FuncData} (F : Fun K "checked_counts" "checked_counts" sChCounts f fd) (T : Nms mg) (TQ : PySem.ErrX.ErrTxt P K mg "InvalidQuestion" CQ fI)
    (C1 : Callee P w K mg base CX0 1 "is_sequence" ["value"] spIsSeq) (C2 : Callee P w K mg base CX0 1 "is_integer" ["value"] spIsInt) : FnOk P w K mg base (L2.CX P w) 3 f fd ["value"] (spChC CQ) := by
  obtain ⟨f1, fd1, G1, b1, m1, k1⟩ := C1.ex
  obtain ⟨f2, fd2, G2, b2, m2, k2⟩ := C2.ex
  refine F.okX scChC (fun vs H Q E h => ?_) (fun cdv A outer s H vs Q E hr h => ?_)
  · obtain ⟨x, rfl, _⟩ := h
    rfl
  · obtain ⟨x, rfl, h⟩ := h
    have hr1 : Room 1 _ := hr.mono (by decide)
    have up : ∀ {p : Addr} {xs : List V}, (∃ ns, xs = vI ns) ∨ (∃ y, xs = [y] ∧ isI y = some false) → ∃ bs : List Bool, bs.length = xs.length ∧ (∀ (i : Nat) (y : V), xs[i]? = some y → ∃ b, bs[i]? = some b ∧ isI y = some b) ∧ (bs.all id = true ↔ ¬ ∃ y, xs = [y] ∧ isI y = some false) := by
      rintro p xs (⟨ns, rfl⟩ | ⟨y, rfl, hy⟩)
      · refine ⟨List.replicate ns.length true, by simp, fun i y hiy => ?_, ⟨fun _ => ?_, fun _ => all_true _⟩⟩
        · obtain ⟨z, hz, rfl⟩ := map_at hiy
          have := at_lt hz
          exact ⟨true, by simp [this], rfl⟩
        · rintro ⟨y, e, hy⟩
          cases ns with
          | nil => cases e
          | cons n r =>
            have e2 := (List.cons.inj e).1
            subst e2
            cases hy
      · refine ⟨[false], rfl, fun i z hz => ?_, ⟨fun e => (by cases e), fun e => absurd ⟨y, rfl, hy⟩ e⟩⟩
        have := at_lt hz
        have e : i = 0 := by
          rw [List.length_singleton] at this
          omega
        subst e
        cases hz
        exact ⟨false, rfl, hy⟩
    have hcase : (∃ p xs, x = .ref p ∧ H p = some (.lst xs) ∧ ((∃ ns, xs = vI ns) ∨ (∃ y, xs = [y] ∧ isI y = some false))) ∨ (∃ p xs, x = .ref p ∧ H p = some (.tup xs) ∧ ((∃ ns, xs = vI ns) ∨ (∃ y, xs = [y] ∧ isI y = some false))) ∨
        (SeqK H x false ∧ Flies CQ 0 H E) := by
      rcases h with ⟨ns, h, _⟩ | ⟨h, fl⟩
      · cases h with
        | lst h => exact .inl ⟨_, _, rfl, h, .inl ⟨_, rfl⟩⟩
        | tup h => exact .inr (.inl ⟨_, _, rfl, h, .inl ⟨_, rfl⟩⟩)
      · cases h with
        | not h => exact .inr (.inr ⟨h, fl⟩)
        | lst h hy => exact .inl ⟨_, _, rfl, h, .inr ⟨_, rfl, hy⟩⟩
        | tup h hy => exact .inr (.inl ⟨_, _, rfl, h, .inr ⟨_, rfl, hy⟩⟩)
    have flyAt : ∀ {p : Addr} {xs : List V}, x = .ref p → (H p = some (.lst xs) ∨ H p = some (.tup xs)) → (∃ y, xs = [y] ∧ isI y = some false) → Flies CQ 0 H E := by
      rintro p xs rfl hp ⟨y, rfl, hy⟩
      rcases h with ⟨ns, h, _⟩ | ⟨_, fl⟩
      · exfalso
        have : [y] = vI ns := by
          cases h with
          | lst h =>
            rcases hp with hp | hp
            · rw [h] at hp
              exact (HO.lst.inj (Option.some.inj hp)).symm
            · rw [h] at hp
              cases hp
          | tup h =>
            rcases hp with hp | hp
            · rw [h] at hp
              cases hp
            · rw [h] at hp
              exact (HO.tup.inj (Option.some.inj hp)).symm
        cases ns with
        | nil => cases this
        | cons n r =>
          have e2 := (List.cons.inj this).1
          subst e2
          cases hy
      · exact fl
    have okAt : ∀ {p : Addr} {xs : List V}, x = .ref p → (H p = some (.lst xs) ∨ H p = some (.tup xs)) → (¬ ∃ y, xs = [y] ∧ isI y = some false) → xs.length ≤ 1000 ∧ ∀ q H', Same H H' → H' q = some (.tup xs) → Q (.ref q) H' := by
      rintro p xs rfl hp hn
      rcases h with ⟨ns, h, hl, k⟩ | ⟨hb, _⟩
      · have : xs = vI ns := by
          cases h with
          | lst h =>
            rcases hp with hp | hp
            · rw [h] at hp
              cases hp
              rfl
            · rw [h] at hp
              cases hp
          | tup h =>
            rcases hp with hp | hp
            · rw [h] at hp
              cases hp
            · rw [h] at hp
              cases hp
              rfl
        subst this
        exact ⟨by rw [List.length_map]; exact hl, k⟩
      · exfalso
        cases hb with
        | not h =>
          cases h with
          | dic h =>
            rcases hp with hp | hp
            · rw [h] at hp
              cases hp
            · rw [h] at hp
              cases hp
        | lst h hy =>
          rcases hp with hp | hp
          · rw [h] at hp
            cases hp
            exact hn ⟨_, rfl, hy⟩
          · rw [h] at hp
            cases hp
        | tup h hy =>
          rcases hp with hp | hp
          · rw [h] at hp
            cases hp
          · rw [h] at hp
            cases hp
            exact hn ⟨_, rfl, hy⟩
    rcases hcase with ⟨p, xs, hx, hp, hg⟩ | ⟨p, xs, hx, hp, hg⟩ | ⟨hk, fl⟩
    · obtain ⟨bs, hbl, hbs, hall⟩ := up (p := p) hg
      refine ⟨_, pss_cons (ps_if (PW.pt (pw_or (pt_not (pt_val (pe_call G1 hr1 (by rfl) m1 k1 b1 .nil pass0 (pa_cons (pv 0) pa_nil))))
          (pw_or1 (pt_not (pt_val (pe_callB (cr_all rfl) (by rfl) T.all bAll (pa_cons (pe_lc (own := [("count", 1)]) (g := gName 1) (tt := tYes) rfl scChC.nd (pi_list (pv 0)) (blkOk_by (N := ["value", "count"]) (sc := defScope sChCounts) (by decide +kernel))
            (fun _ _ _ _ _ => pg_name (i := 1) scChC.nd rfl (Or.inl rfl)) (fun _ _ _ _ _ => pts_nil) (fun _ _ _ _ _ => pe_call G2 hr1 (by rfl) m2 k2 b2 .nil pass0 (pa_cons (pv 1) pa_nil))) pa_nil)))))))
          (pss_one (ps_raiseErr rfl TQ hr (takes_of rfl rfl rfl rfl) (by exact (pa_cons pe_int pa_nil)) (by rfl))) pss_nil)
        (pss_one (ps_ret (pe_callTy call_tuple_of (by rfl) T.tuple bTuple (pa_cons (pv 0) pa_nil)))), ?_⟩
      refine ⟨_, rfl, x, true, rfl, by rw [hx]; exact .lst hp, fun H1 s1 => ⟨_, rfl, iteF ?_⟩⟩
      refine ⟨_, rfl, p, hx, ⟨_, SqL.of (s1 _ _ hp)⟩, fun D hD => loopL (K := K) (a := p) (xs := xs) (fun i H' => Cw H1 D ((bs.take i).map V.bl) H') (Cw.start hD) (fun i H' _ cw => SqL.of (cw.same _ _ (s1 _ _ hp))) ?_ ?_⟩
      · intro i y H' hi cw
        obtain ⟨b, hb, hy⟩ := hbs i y hi
        have hlt := at_lt hi
        refine ⟨rfl, ?_⟩
        refine ⟨_, rfl, y, b, rfl, hy, ?_⟩
        have hxl : xs.length ≤ 1000 := by
          rcases hg with ⟨ns, e⟩ | ⟨y, e, _⟩
          · by_cases c : ∃ y, xs = [y] ∧ isI y = some false
            · obtain ⟨y, e, _⟩ := c
              rw [e]
              show 1 ≤ 1000
              decide
            · exact (okAt hx (.inl hp) c).1
          · rw [e]
            show 1 ≤ 1000
            decide
        refine cw.put (Same.refl _) (by rw [List.length_map, List.length_take]; omega) ?_
        rw [take_snoc hb, List.map_append]
        rfl
      · intro H2 cw
        rw [← hbl, take_all] at cw
        refine ⟨D, bs, rfl, SqL.of cw.here, _, rfl, ?_⟩
        have s2 := s1.trans cw.same
        cases hb : bs.all id with
        | false =>
          refine iteT ⟨_, rfl, fun d hd => ?_⟩
          have hbad : ∃ y, xs = [y] ∧ isI y = some false := Classical.byContradiction fun z => by
            have := hall.mpr z
            rw [hb] at this
            cases this
          exact flyAt hx (.inl hp) hbad d _ (s2.trans (same_new hd)) upd_same
        | true =>
          refine iteF ⟨_, rfl, p, xs, by rw [hx], .inl ⟨SqL.of (s2 _ _ hp), fun l hl => ?_⟩⟩
          exact (okAt hx (.inl hp) (hall.mp hb)).2 l _ (s2.trans (same_new hl)) upd_same
    · obtain ⟨bs, hbl, hbs, hall⟩ := up (p := p) hg
      refine ⟨_, pss_cons (ps_if (PW.pt (pw_or (pt_not (pt_val (pe_call G1 hr1 (by rfl) m1 k1 b1 .nil pass0 (pa_cons (pv 0) pa_nil))))
          (pw_or1 (pt_not (pt_val (pe_callB (cr_all rfl) (by rfl) T.all bAll (pa_cons (pe_lc (own := [("count", 1)]) (g := gName 1) (tt := tYes) rfl scChC.nd (pi_tup (pv 0)) (blkOk_by (N := ["value", "count"]) (sc := defScope sChCounts) (by decide +kernel))
            (fun _ _ _ _ _ => pg_name (i := 1) scChC.nd rfl (Or.inl rfl)) (fun _ _ _ _ _ => pts_nil) (fun _ _ _ _ _ => pe_call G2 hr1 (by rfl) m2 k2 b2 .nil pass0 (pa_cons (pv 1) pa_nil))) pa_nil)))))))
          (pss_one (ps_raiseErr rfl TQ hr (takes_of rfl rfl rfl rfl) (by exact (pa_cons pe_int pa_nil)) (by rfl))) pss_nil)
        (pss_one (ps_ret (pe_callTy call_tuple_of (by rfl) T.tuple bTuple (pa_cons (pv 0) pa_nil)))), ?_⟩
      refine ⟨_, rfl, x, true, rfl, by rw [hx]; exact .tup hp, fun H1 s1 => ⟨_, rfl, iteF ?_⟩⟩
      refine ⟨_, rfl, p, hx, ⟨_, SqT.of (s1 _ _ hp)⟩, fun D hD => loopT (K := K) (a := p) (xs := xs) (fun i H' => Cw H1 D ((bs.take i).map V.bl) H') (Cw.start hD) (fun i H' _ cw => SqT.of (cw.same _ _ (s1 _ _ hp))) ?_ ?_⟩
      · intro i y H' hi cw
        obtain ⟨b, hb, hy⟩ := hbs i y hi
        have hlt := at_lt hi
        refine ⟨rfl, ?_⟩
        refine ⟨_, rfl, y, b, rfl, hy, ?_⟩
        have hxl : xs.length ≤ 1000 := by
          rcases hg with ⟨ns, e⟩ | ⟨y, e, _⟩
          · by_cases c : ∃ y, xs = [y] ∧ isI y = some false
            · obtain ⟨y, e, _⟩ := c
              rw [e]
              show 1 ≤ 1000
              decide
            · exact (okAt hx (.inr hp) c).1
          · rw [e]
            show 1 ≤ 1000
            decide
        refine cw.put (Same.refl _) (by rw [List.length_map, List.length_take]; omega) ?_
        rw [take_snoc hb, List.map_append]
        rfl
      · intro H2 cw
        rw [← hbl, take_all] at cw
        refine ⟨D, bs, rfl, SqL.of cw.here, _, rfl, ?_⟩
        have s2 := s1.trans cw.same
        cases hb : bs.all id with
        | false =>
          refine iteT ⟨_, rfl, fun d hd => ?_⟩
          have hbad : ∃ y, xs = [y] ∧ isI y = some false := Classical.byContradiction fun z => by
            have := hall.mpr z
            rw [hb] at this
            cases this
          exact flyAt hx (.inr hp) hbad d _ (s2.trans (same_new hd)) upd_same
        | true =>
          refine iteF ⟨_, rfl, p, xs, by rw [hx], .inr ⟨SqT.of (s2 _ _ hp), ?_⟩⟩
          exact (okAt hx (.inr hp) (hall.mp hb)).2 p _ s2 (s2 _ _ hp)
    · refine ⟨_, pss_cons (ps_if (PW.pt (pw_or (pt_not (pt_val (pe_call G1 hr1 (by rfl) m1 k1 b1 .nil pass0 (pa_cons (pv 0) pa_nil))))
          (pw_or1 (pt_not (pt_val (pe_callB (cr_all rfl) (by rfl) T.all bAll (pa_cons (pe_lc (own := [("count", 1)]) (g := gName 1) (tt := tYes) rfl scChC.nd (pi_tup (pv 0)) (blkOk_by (N := ["value", "count"]) (sc := defScope sChCounts) (by decide +kernel))
            (fun _ _ _ _ _ => pg_name (i := 1) scChC.nd rfl (Or.inl rfl)) (fun _ _ _ _ _ => pts_nil) (fun _ _ _ _ _ => pe_call G2 hr1 (by rfl) m2 k2 b2 .nil pass0 (pa_cons (pv 1) pa_nil))) pa_nil)))))))
          (pss_one (ps_raiseErr rfl TQ hr (takes_of rfl rfl rfl rfl) (by exact (pa_cons pe_int pa_nil)) (by rfl))) pss_nil)
        (pss_one (ps_ret (pe_callTy call_tuple_of (by rfl) T.tuple bTuple (pa_cons (pv 0) pa_nil)))), ?_⟩
      refine ⟨_, rfl, x, false, rfl, hk, fun H1 s1 => ⟨_, rfl, iteT ?_⟩⟩
      exact iteT ⟨_, rfl, fun d hd => fl d _ (s1.trans (same_new hd)) upd_same⟩
end
end K45
namespace K45
open PySem L2 M45
abbrev sParts : Stmt := topS 16
abbrev sLotOf : Stmt := topS 17
section
variable {base : Heap} {P : Program} {w : World} {K : PySem.W.Frag} {mg : Str → Option Value}
/-! parts_of -/
theorem abs_nat (i : Int) : (if i < 0 then -i else i) = (i.natAbs : Int) := by
  split <;> omega
def spParts : Sp := fun vs H Q _ => ∃ (p : Addr) (ns : List Int), vs = [.ref p] ∧ H p = some (.tup (vI ns)) ∧ ns.length ≤ 12 ∧ ∀ q H', Same H H' → H' q = some (.lst (vN (parts ns))) → Q (.ref q) H'
theorem scParts : FnScope ["counts", "found", "count", "one", "end"] ["counts"] (defScope sParts) := ⟨rfl, rfl, rfl, by decide +kernel, rfl, by decide +kernel, by decide +kernel⟩
theorem pend_snoc (f : List Nat) (o : Nat) (c : Int) : pend (f ++ [o]) c = pend f c ++ [Nat.gcd o c.natAbs] ++ [Nat.gcd o (c - 1).natAbs] := by
  unfold pend
  rw [List.flatMap_append, List.append_assoc]
  rfl
theorem parts_take {ns : List Int} {i : Nat} {c : Int} (h : ns[i]? = some c) : parts (ns.take (i + 1)) = stepS (parts (ns.take i)) c := by
  rw [take_snoc h, parts_snoc]
theorem ok_parts {f : Addr} {fd : FuncData} (F : Fun K "parts_of" "parts_of" sParts f fd) (T : Nms mg) (C2 : Callee P w K mg base CX0 1 "common_divisor" ["one", "other"] spCd) :
    FnOk P w K mg base CX0 2 f fd ["counts"] spParts := by
  obtain ⟨f2, fd2, G2, b2, m2, k2⟩ := C2.ex
  refine F.ok scParts (fun vs H Q E h => ?_) (fun cdv A outer s H vs Q E hr h => ?_)
  · obtain ⟨p, A, rfl, _⟩ := h
    rfl
  · obtain ⟨p, ns, rfl, hp, hl, k⟩ := h
    refine ⟨_, pss_cons (ps_set (i := 1) scParts.nd rfl (.inl rfl) (pe_lst (pa_cons pe_int pa_nil)))
      (pss_cons (ps_for PassesOwn.never rfl (pi_tup (pv 0)) (pg_name (i := 2) scParts.nd rfl (.inr rfl)) (pss_cons
          (ps_setLc2 (i := 1) (own := [("one", 3), ("end", 4)]) (vs1 := [4]) (g := gName 3) (g1 := gName 4) (tt := tYes) (tt1 := tYes) (wi1 := iTup K (tTup (tCons (tVar 2) (tCons (tOp (rI0 fun i j => V.int (i - j)) (tVar 2) (tC (.int 1))) tNil)))) rfl scParts.nd rfl rfl
            (sw_true rfl rfl rfl rfl) (pi_list (pv 1)) (blkOk_by (N := ["counts", "found", "count", "one", "end"]) (sc := defScope sParts) (by decide +kernel)) (by decide)
            (fun _ _ _ _ _ => pg_name (i := 3) scParts.nd rfl (Or.inl rfl)) (fun _ _ _ _ _ => pts_nil)
            (fun _ _ _ _ _ => pi_tup (pe_tup (pa_cons (pv 2) (pa_cons (pe_op op_sub (pv 2) pe_int) pa_nil))))
            (fun _ _ _ _ _ => pg_name (i := 4) scParts.nd rfl (Or.inl rfl)) (fun _ _ _ _ _ => pts_nil)
            (fun _ _ _ _ _ => pe_call G2 hr (by rfl) m2 k2 b2 .nil pass0 (pa_cons (pv 3) (pa_cons (pe_callB call_abs (by rfl) T.abs bAbs (pa_cons (pv 4) pa_nil)) pa_nil))))
          (pss_one (ps_set (i := 1) scParts.nd rfl (.inl rfl) (pe_callB cr_sortedI (by rfl) T.sorted bSorted (pa_cons
            (pe_lc (own := [("one", 3)]) (g := gName 3) rfl scParts.nd (pi_list (pv 1)) (blkOk_by (N := ["counts", "found", "count", "one", "end"]) (sc := defScope sParts) (by decide +kernel))
              (fun _ _ _ _ _ => pg_name (i := 3) scParts.nd rfl (Or.inl rfl)) (fun _ _ _ _ _ => pts_one (PW.pt (pw_or (pt_cmpR op_eq (pv 3) pe_int (nomark _)) (pw_or1 (pt_cmpR op_gt (pv 3) pe_int (nomark _)))))) (fun _ _ _ _ _ => pv 3)) pa_nil))))))
        (pss_one (ps_ret (pv 1)))), ?_⟩
    have hlen : ∀ i, (parts (ns.take i)).length ≤ 4096 := fun i => by
      refine Nat.le_trans (parts_len _) (show _ ≤ 2 ^ 12 from Nat.pow_le_pow_right (by decide) ?_)
      rw [List.length_take]
      omega
    refine ⟨by show 1 ≤ sizeLine; decide, fun l hl1 => ?_⟩
    refine ⟨_, rfl, p, rfl, ⟨_, SqT.of (same_new hl1 _ _ hp)⟩, for_tup (K := K) (a := p) (xs := vI ns) (fun i σ H' => ∃ q v, σ = [some (.ref p), some (.ref q), v, none, none] ∧ Same H H' ∧ H' q = some (.lst (vN (parts (ns.take i))))) ⟨l, none, rfl, same_new hl1, upd_same⟩ (fun i σ H' _ ⟨_, _, _, e, _⟩ => SqT.of (e _ _ hp)) ?_ ?_⟩
    · rintro i x σ H' hi ⟨q, v, rfl, s1, hq⟩
      obtain ⟨c, hc, rfl⟩ := map_at hi
      rw [parts_take hc]
      have hf := hlen i
      generalize parts (ns.take i) = f at hq hf
      refine ⟨_, rfl, q, rfl, ⟨_, SqL.of hq⟩, fun D hD => loopL (K := K) (a := q) (xs := vN f) (fun j H2 => Cw H' D (vN (pend (f.take j) c)) H2) (Cw.start hD) (fun j H2 _ cw => SqL.of (cw.same _ _ hq)) ?_ ?_⟩
      · intro j x H2 hj cw
        obtain ⟨z, hz, rfl⟩ := map_at hj
        obtain ⟨o, ho, rfl⟩ := map_at hz
        have hjl := at_lt ho
        rw [take_snoc ho, pend_snoc]
        have hsm : (vN (pend (f.take j) c)).length < 50000 := by
          rw [List.length_map, List.length_map, pend_len, List.length_take]
          omega
        refine ⟨rfl, ?_⟩
        refine ⟨_, rfl, _, rfl, _, _, rfl, rfl, by show 2 ≤ sizeLine; decide, fun t ht => ?_⟩
        have s3 : Same H2 (upd H2 t (.tup [V.int c, V.int (c - 1)])) := same_new ht
        refine ⟨t, rfl, ⟨_, SqT.of upd_same⟩, loopT (K := K) (a := t) (xs := [V.int c, V.int (c - 1)]) (fun k H3 => Cw H' D (vN (pend (f.take j) c ++ [Nat.gcd o c.natAbs, Nat.gcd o (c - 1).natAbs].take k)) H3 ∧ H3 t = some (.tup [V.int c, V.int (c - 1)]))
          ⟨⟨cw.free, cw.same.trans s3, (by rw [List.take_zero, List.append_nil]; exact s3 _ _ cw.here)⟩, upd_same⟩ (fun _ _ _ z => SqT.of z.2) ?_ ?_⟩
        · rintro k x H3 hk ⟨c3, ht3⟩
          obtain ⟨e, rfl, hg⟩ : ∃ e : Int, x = .int e ∧ [Nat.gcd o c.natAbs, Nat.gcd o (c - 1).natAbs][k]? = some (Nat.gcd o e.natAbs) := by
            match k, hk with
            | 0, hk => exact ⟨c, (Option.some.inj hk).symm, rfl⟩
            | 1, hk => exact ⟨c - 1, (Option.some.inj hk).symm, rfl⟩
            | k + 2, hk => simp at hk
          refine ⟨rfl, ?_⟩
          refine ⟨_, rfl, _, rfl, e, rfl, o, e.natAbs, (by rw [abs_nat]; rfl), ?_⟩
          obtain ⟨acc, ha, hz, c4⟩ := c3.put (out' := vN (pend (f.take j) c ++ [Nat.gcd o c.natAbs, Nat.gcd o (c - 1).natAbs].take (k + 1))) (y := .int (Nat.gcd o e.natAbs : Nat)) (Same.refl _) (by
            rw [List.length_map, List.length_map, List.length_append, List.length_take]
            rw [List.length_map, List.length_map] at hsm
            show _ + min k 2 < _
            omega) (by
            rw [take_snoc hg]
            simp)
          refine ⟨acc, ha, hz, c4, ?_⟩
          rw [upd_ne (fun z => by subst z; rw [ha] at ht3; cases ht3)]
          exact ht3
        · rintro H3 ⟨c3, _⟩
          have e : pend (f.take j) c ++ [Nat.gcd o c.natAbs, Nat.gcd o (c - 1).natAbs].take ([V.int c, V.int (c - 1)].length) = pend (f.take j) c ++ [Nat.gcd o c.natAbs] ++ [Nat.gcd o (c - 1).natAbs] := by
            rw [List.append_assoc]
            rfl
          rw [e] at c3
          exact c3
      · intro H2 cw
        rw [List.length_map, List.length_map, take_all] at cw
        have s2 := s1.trans cw.same
        have hD2 := cw.here
        have hpl : (pend f c).length ≤ 8192 := by rw [pend_len]; omega
        unfold stepS step1
        generalize pend f c = g at hD2 hpl ⊢
        refine ⟨_, rfl, D, rfl, ⟨_, SqL.of hD2⟩, fun D3 hD3 => loopL (K := K) (a := D) (xs := vN g) (fun j H4 => Cw H2 D3 (vN ((g.take j).filter keep)) H4) (Cw.start hD3) (fun j H4 _ c4 => SqL.of (c4.same _ _ hD2)) ?_ ?_⟩
        · intro j x H4 hj c4
          obtain ⟨z, hz, rfl⟩ := map_at hj
          obtain ⟨o, ho, rfl⟩ := map_at hz
          have hjl := at_lt ho
          have hsm : (vN ((g.take j).filter keep)).length < 100000 := by
            have := List.length_filter_le keep (g.take j)
            rw [List.length_take] at this
            rw [List.length_map, List.length_map]
            omega
          rw [take_snoc ho, List.filter_append]
          refine ⟨rfl, ?_⟩
          refine ⟨_, rfl, rfl, _, rfl, ?_⟩
          by_cases h0 : o = 0
          · subst h0
            refine iteT (iteT ⟨_, rfl, ?_⟩)
            exact c4.put (Same.refl _) hsm (by simp [keep])
          · have e : decide (V.int (o : Int) = V.int 0) = false := by simp [h0]
            rw [e]
            refine iteF ⟨_, rfl, _, _, rfl, rfl, _, rfl, ?_⟩
            by_cases h2 : 2 < o
            · rw [decide_eq_true (show (2 : Int) < (o : Int) by omega)]
              refine iteT ⟨_, rfl, ?_⟩
              exact c4.put (Same.refl _) hsm (by simp [keep, h2])
            · rw [decide_eq_false (show ¬ (2 : Int) < (o : Int) by omega)]
              refine iteF ?_
              exact c4.skip (Same.refl _) (by simp [keep, h0, h2])
        · intro H4 c4
          rw [List.length_map, List.length_map, take_all] at c4
          refine ⟨D3, _, rfl, SqL.of c4.here, fun ns' q2 hperm hpw hq2 => ?_⟩
          refine ⟨q2, some (.int c), rfl, s2.trans (c4.same.trans (same_new hq2)), ?_⟩
          rw [srt_int hperm hpw]
          exact upd_same
    · rintro σ H' ⟨q, v, rfl, s1, hq⟩
      rw [List.length_map, take_all] at hq
      exact ⟨_, rfl, k _ _ s1 hq⟩
/-! lot_of -/
theorem in_zero : ∀ l : List Nat, inV (.int 0) (vN l) = decide (0 ∈ l)
  | [] => rfl
  | a :: l => by
    show (eqV (.int (a : Int)) (.int 0) || inV (.int 0) (vN l)) = _
    rw [in_zero l]
    show (((a : Int) == 0) || _) = _
    by_cases h : a = 0
    · subst h
      simp
    · have e : ((a : Int) == 0) = false := by simp [h]
      rw [e, Bool.false_or]
      have : (0 ∈ a :: l) = (0 ∈ l) := by
        rw [List.mem_cons]
        exact propext ⟨fun z => z.resolve_left fun q => h q.symm, .inr⟩
      simp only [this]
theorem flat_ints : ∀ l : List Int, (vI l).all flatV = true
  | [] => rfl
  | a :: l => by
    show (flatV (.int a) && (vI l).all flatV) = true
    rw [flat_ints l]
    rfl
def spLotOf : Sp := fun vs H Q _ => ∃ (x : V) (ns : List Int), vs = [x] ∧ IntsAt H x ns ∧ ns.length ≤ 12 ∧ (lotOf ns = none → ∀ H', Same H H' → Q .non H') ∧ (∀ L, lotOf ns = some L → ∀ y H', Same H H' → TupN H' y L → Q y H')
theorem scLotOf : FnScope ["counts", "found"] ["counts"] (defScope sLotOf) := ⟨rfl, rfl, rfl, by decide +kernel, rfl, by decide +kernel, by decide +kernel⟩
theorem ok_lotOf {f CQ : Addr} {fd : FuncData} (F : Fun K "lot_of" "lot_of" sLotOf f fd) (T : Nms mg) (C1 : Callee P w K mg base (L2.CX P w) 3 "checked_counts" ["value"] (spChC CQ)) (C2 : Callee P w K mg base CX0 2 "parts_of" ["counts"] spParts) :
    FnOk P w K mg base CX0 4 f fd ["counts"] spLotOf := by
  obtain ⟨f1, fd1, G1, b1, m1, k1⟩ := C1.ex
  obtain ⟨f2, fd2, G2, b2, m2, k2⟩ := C2.ex
  refine F.ok scLotOf (fun vs H Q E h => ?_) (fun cdv A outer s H vs Q E hr h => ?_)
  · obtain ⟨p, A, rfl, _⟩ := h
    rfl
  · obtain ⟨x, ns, rfl, hx, hl, kn, ks⟩ := h
    refine ⟨_, pss_cons (ps_set (i := 1) scLotOf.nd rfl (.inl rfl) (pe_call G2 (hr.mono (by decide)) (by rfl) m2 k2 b2 .nil pass0 (pa_cons (pe_call G1 hr (by rfl) m1 k1 b1 .nil passL (pa_cons (pv 0) pa_nil)) pa_nil)))
      (pss_one (ps_ret (pe_ifExp (pt_cmpR op_in_seq pe_int (pv 1) (by rfl)) pe_non (pe_callTy call_tuple_of (by rfl) T.tuple bTuple (pa_cons (pv 1) pa_nil))))), ?_⟩
    refine ⟨_, rfl, x, rfl, .inl ⟨ns, hx, by omega, fun q H1 s1 hq => ?_⟩⟩
    refine ⟨q, ns, rfl, hq, hl, fun q2 H2 s2 hq2 => ?_⟩
    refine ⟨_, rfl, q2, _, rfl, .inl (SqL.of hq2), rfl, flat_ints _, ?_⟩
    rw [in_zero]
    by_cases h0 : 0 ∈ parts ns
    · rw [decide_eq_true h0]
      refine ⟨_, rfl, iteT ?_⟩
      exact kn (by unfold lotOf; rw [if_pos h0]) _ (s1.trans s2)
    · rw [decide_eq_false h0]
      refine ⟨_, rfl, iteF ⟨_, rfl, q2, _, rfl, .inl ⟨SqL.of hq2, fun l hl2 => ?_⟩⟩⟩
      exact ks (parts ns) (by unfold lotOf; rw [if_neg h0]) _ _ ((s1.trans s2).trans (same_new hl2)) ⟨l, rfl, upd_same⟩
/-! checked_tellings -/
theorem bad_not {H : Hp} {x : V} {ns : List Int} (h : IntsAt H x ns) (b : Bad H x) : False := by
  have ne : ∀ y : V, isI y = some false → ∀ ms : List Int, [y] ≠ vI ms := fun y hy ms e => by
    cases ms with
    | nil => cases e
    | cons m r =>
      have e2 := (List.cons.inj e).1
      subst e2
      cases hy
  cases h with
  | lst h =>
    cases b with
    | not z =>
      cases z with
      | dic z => rw [h] at z; cases z
    | lst z hy => rw [h] at z; exact ne _ hy _ (HO.lst.inj (Option.some.inj z)).symm
    | tup z hy => rw [h] at z; cases z
  | tup h =>
    cases b with
    | not z =>
      cases z with
      | dic z => rw [h] at z; cases z
    | lst z hy => rw [h] at z; cases z
    | tup z hy => rw [h] at z; exact ne _ hy _ (HO.tup.inj (Option.some.inj z)).symm
/-- the test that x is a sequence of ints, x at slot i, the comprehension's own name at j -/
theorem seq_test {H0 : Hp} {x : V} (i j : Nat) (h : (∃ ns, IntsAt H0 x ns ∧ ns.length ≤ 1000) ∨ Bad H0 x) :
    ∃ wi : TI, (∀ (X : Cx) (tg e : Expr), X.K = K → PE X e (tVar i) → PI X tg e wi) ∧ ∀ (σ : L2.St) (H : Hp) (C : Bool → Hp → Prop), Same H0 H → σ[i]? = some (some x) → (∀ y, ((wipe σ [j]).set j (some y))[j]? = some (some y)) → (∀ y, wipe ((wipe σ [j]).set j (some y)) [j] = wipe σ [j]) →
      ((∃ ns, IntsAt H0 x ns) → ∀ H', Same H H' → C false H') → (Bad H0 x → ∀ H', Same H H' → C true H') →
      tOr (tNot (tB (tCall spIsSeq [] E0 (tCons (tVar i) tNil)))) (tNot (tB (tCB (rAll K) (tCons (tLc wi (gName j) tYes (tCall spIsInt [] E0 (tCons (tVar j) tNil)) [j]) tNil)))) σ H C := by
  have key : ∀ (p : Addr) (xs : List V), x = .ref p → ((∃ ns, IntsAt H0 x ns ∧ xs = vI ns ∧ ns.length ≤ 1000) ∨ (Bad H0 x ∧ ∃ y, xs = [y] ∧ isI y = some false)) → ∃ bs : List Bool, bs.length = xs.length ∧ xs.length ≤ 1000 ∧ (∀ (i : Nat) (y : V), xs[i]? = some y → ∃ b, bs[i]? = some b ∧ isI y = some b) ∧ ((bs.all id = true ∧ ∃ ns, IntsAt H0 x ns) ∨ (bs.all id = false ∧ Bad H0 x)) := by
    rintro p xs _ (⟨ns, hi, rfl, hl⟩ | ⟨hb, y, rfl, hy⟩)
    · refine ⟨List.replicate ns.length true, by simp, (by rw [List.length_map]; exact hl), fun i y hiy => ?_, .inl ⟨all_true _, ns, hi⟩⟩
      obtain ⟨z, hz, rfl⟩ := map_at hiy
      have := at_lt hz
      exact ⟨true, by simp [this], rfl⟩
    · refine ⟨[false], rfl, (by show 1 ≤ 1000; decide), fun i z hz => ?_, .inr ⟨rfl, hb⟩⟩
      have := at_lt hz
      have e : i = 0 := by
        rw [List.length_singleton] at this
        omega
      subst e
      cases hz
      exact ⟨false, rfl, hy⟩
  have hcase : (∃ p xs, x = .ref p ∧ H0 p = some (.lst xs) ∧ ((∃ ns, IntsAt H0 x ns ∧ xs = vI ns ∧ ns.length ≤ 1000) ∨ (Bad H0 x ∧ ∃ y, xs = [y] ∧ isI y = some false))) ∨ (∃ p xs, x = .ref p ∧ H0 p = some (.tup xs) ∧ ((∃ ns, IntsAt H0 x ns ∧ xs = vI ns ∧ ns.length ≤ 1000) ∨ (Bad H0 x ∧ ∃ y, xs = [y] ∧ isI y = some false))) ∨ (SeqK H0 x false ∧ Bad H0 x) := by
    rcases h with ⟨ns, h, hl⟩ | h
    · cases h with
      | lst h => exact .inl ⟨_, _, rfl, h, .inl ⟨_, .lst h, rfl, hl⟩⟩
      | tup h => exact .inr (.inl ⟨_, _, rfl, h, .inl ⟨_, .tup h, rfl, hl⟩⟩)
    · cases h with
      | not h => exact .inr (.inr ⟨h, .not h⟩)
      | lst h hy => exact .inl ⟨_, _, rfl, h, .inr ⟨.lst h hy, _, rfl, hy⟩⟩
      | tup h hy => exact .inr (.inl ⟨_, _, rfl, h, .inr ⟨.tup h hy, _, rfl, hy⟩⟩)
  rcases hcase with ⟨p, xs, hx, hp, hg⟩ | ⟨p, xs, hx, hp, hg⟩ | ⟨hk, hb⟩
  · refine ⟨iList K (tVar i), fun X tg e eK he => by subst eK; exact pi_list he, fun σ H C s0 hσ hj hw kok kbad => ?_⟩
    obtain ⟨bs, hbl, hxl, hbs, hall⟩ := key p xs hx hg
    refine ⟨x, hσ, x, true, rfl, by rw [hx]; exact .lst (s0 _ _ hp), fun H1 s1 => ⟨_, rfl, iteF ?_⟩⟩
    have hp1 := s1 _ _ (s0 _ _ hp)
    refine ⟨x, hσ, p, hx, ⟨_, SqL.of hp1⟩, fun D hD => loopL (K := K) (a := p) (xs := xs) (fun n H' => Cw H1 D ((bs.take n).map V.bl) H') (Cw.start hD) (fun n H' _ cw => SqL.of (cw.same _ _ hp1)) ?_ ?_⟩
    · intro n y H' hi cw
      obtain ⟨b, hb, hy⟩ := hbs n y hi
      have hlt := at_lt hi
      refine ⟨hw y, ?_⟩
      refine ⟨y, hj y, y, b, rfl, hy, ?_⟩
      refine cw.put (Same.refl _) (by rw [List.length_map, List.length_take]; omega) ?_
      rw [take_snoc hb, List.map_append]
      rfl
    · intro H2 cw
      rw [← hbl, take_all] at cw
      refine ⟨D, bs, rfl, SqL.of cw.here, _, rfl, ?_⟩
      have s2 := s1.trans cw.same
      rcases hall with ⟨e, hn⟩ | ⟨e, hn⟩
      · rw [e]
        exact kok hn _ s2
      · rw [e]
        exact kbad hn _ s2
  · refine ⟨iTup K (tVar i), fun X tg e eK he => by subst eK; exact pi_tup he, fun σ H C s0 hσ hj hw kok kbad => ?_⟩
    obtain ⟨bs, hbl, hxl, hbs, hall⟩ := key p xs hx hg
    refine ⟨x, hσ, x, true, rfl, by rw [hx]; exact .tup (s0 _ _ hp), fun H1 s1 => ⟨_, rfl, iteF ?_⟩⟩
    have hp1 := s1 _ _ (s0 _ _ hp)
    refine ⟨x, hσ, p, hx, ⟨_, SqT.of hp1⟩, fun D hD => loopT (K := K) (a := p) (xs := xs) (fun n H' => Cw H1 D ((bs.take n).map V.bl) H') (Cw.start hD) (fun n H' _ cw => SqT.of (cw.same _ _ hp1)) ?_ ?_⟩
    · intro n y H' hi cw
      obtain ⟨b, hb, hy⟩ := hbs n y hi
      have hlt := at_lt hi
      refine ⟨hw y, ?_⟩
      refine ⟨y, hj y, y, b, rfl, hy, ?_⟩
      refine cw.put (Same.refl _) (by rw [List.length_map, List.length_take]; omega) ?_
      rw [take_snoc hb, List.map_append]
      rfl
    · intro H2 cw
      rw [← hbl, take_all] at cw
      refine ⟨D, bs, rfl, SqL.of cw.here, _, rfl, ?_⟩
      have s2 := s1.trans cw.same
      rcases hall with ⟨e, hn⟩ | ⟨e, hn⟩
      · rw [e]
        exact kok hn _ s2
      · rw [e]
        exact kbad hn _ s2
  · refine ⟨iTup K (tVar i), fun X tg e eK he => by subst eK; exact pi_tup he, fun σ H C s0 hσ hj hw kok kbad => ?_⟩
    exact ⟨x, hσ, x, false, rfl, hk.mono s0, fun H1 s1 => ⟨_, rfl, iteT (kbad hb _ s1)⟩⟩
abbrev sChT : Stmt := topS 19
theorem scChT : FnScope ["yes", "no", "some", "count"] ["yes", "no"] (defScope sChT) := ⟨rfl, rfl, rfl, by decide +kernel, rfl, by decide +kernel, by decide +kernel⟩
def spChT (CQ : Addr) : Sp := fun vs H Q E => ∃ x y, vs = [x, y] ∧
  ((∃ ns ms, IntsAt H x ns ∧ IntsAt H y ms ∧ ns.length ≤ 1000 ∧ ms.length ≤ 1000 ∧ ∀ t q r H', Same H H' → H' t = some (.tup [.ref q, .ref r]) → H' q = some (.tup (vI ns)) → H' r = some (.tup (vI ms)) → Q (.ref t) H') ∨
   (Bad H x ∧ Flies CQ 0 H E) ∨ (Bad H y ∧ Flies CQ 1 H E ∧ ∃ ns, IntsAt H x ns ∧ ns.length ≤ 1000))
theorem ok_chT {f CQ fI : Addr} {fd : FuncData} (F : Fun K "checked_tellings" "checked_tellings" sChT f fd) (T : Nms mg) (TQ : PySem.ErrX.ErrTxt P K mg "InvalidQuestion" CQ fI)
    (C1 : Callee P w K mg base CX0 1 "is_sequence" ["value"] spIsSeq) (C2 : Callee P w K mg base CX0 1 "is_integer" ["value"] spIsInt) (C3 : Callee P w K mg base (L2.CX P w) 3 "checked_counts" ["value"] (spChC CQ)) :
    FnOk P w K mg base (L2.CX P w) 4 f fd ["yes", "no"] (spChT CQ) := by
  obtain ⟨f1, fd1, G1, b1, m1, k1⟩ := C1.ex
  obtain ⟨f2, fd2, G2, b2, m2, k2⟩ := C2.ex
  obtain ⟨f3, fd3, G3, b3, m3, k3⟩ := C3.ex
  refine F.okX scChT (fun vs H Q E h => ?_) (fun cdv A outer s H vs Q E hr h => ?_)
  · obtain ⟨x, y, rfl, _⟩ := h
    rfl
  · obtain ⟨x, y, rfl, h⟩ := h
    have hr1 : Room 1 _ := hr.mono (by decide)
    have hyk : ((∃ ns, IntsAt H y ns ∧ ns.length ≤ 1000) ∨ Bad H y) ∨ ¬ ((∃ ns, IntsAt H y ns ∧ ns.length ≤ 1000) ∨ Bad H y) := Classical.em _
    have hwi : ∃ wi : TI, (∀ (X : Cx) (tg e : Expr), X.K = K → PE X e (tVar 1) → PI X tg e wi) ∧ (((∃ ns, IntsAt H y ns ∧ ns.length ≤ 1000) ∨ Bad H y) → ∀ (σ : L2.St) (H1 : Hp) (C : Bool → Hp → Prop), Same H H1 → σ[1]? = some (some y) → (∀ y, ((wipe σ [3]).set 3 (some y))[3]? = some (some y)) → (∀ y, wipe ((wipe σ [3]).set 3 (some y)) [3] = wipe σ [3]) →
      ((∃ ns, IntsAt H y ns) → ∀ H', Same H1 H' → C false H') → (Bad H y → ∀ H', Same H1 H' → C true H') →
      tOr (tNot (tB (tCall spIsSeq [] E0 (tCons (tVar 1) tNil)))) (tNot (tB (tCB (rAll K) (tCons (tLc wi (gName 3) tYes (tCall spIsInt [] E0 (tCons (tVar 3) tNil)) [3]) tNil)))) σ H1 C) := by
      rcases hyk with hy | hy
      · obtain ⟨wi, h1, h2⟩ := seq_test (K := K) 1 3 hy
        exact ⟨wi, h1, fun _ => h2⟩
      · exact ⟨iTup K (tVar 1), fun X tg e eK he => by subst eK; exact pi_tup he, fun z => absurd z hy⟩
    obtain ⟨wi, hpi, hrd⟩ := hwi
    refine ⟨_, pss_cons (ps_set (i := 2) scChT.nd rfl (.inl rfl) (pe_call G3 hr (by rfl) m3 k3 b3 .nil (L2.passes_call (takes_of rfl rfl rfl rfl) fun _ _ _ _ h => h) (pa_cons (pv 0) pa_nil)))
        (pss_cons (ps_if (PW.pt (pw_or (pt_not (pt_val (pe_call G1 hr1 (by rfl) m1 k1 b1 .nil pass0 (pa_cons (pv 1) pa_nil))))
          (pw_or1 (pt_not (pt_val (pe_callB (cr_all rfl) (by rfl) T.all bAll (pa_cons (pe_lc (own := [("count", 3)]) (wi := wi) (g := gName 3) (tt := tYes) rfl scChT.nd (hpi _ _ _ rfl (pv 1)) (blkOk_by (N := ["yes", "no", "some", "count"]) (sc := defScope sChT) (by decide +kernel))
            (fun _ _ _ _ _ => pg_name (i := 3) scChT.nd rfl (Or.inl rfl)) (fun _ _ _ _ _ => pts_nil) (fun _ _ _ _ _ => pe_call G2 hr1 (by rfl) m2 k2 b2 .nil pass0 (pa_cons (pv 3) pa_nil))) pa_nil)))))))
          (pss_one (ps_raiseErr rfl TQ hr (takes_of rfl rfl rfl rfl) (by exact (pa_cons pe_int pa_nil)) (by rfl))) pss_nil)
        (pss_one (ps_ret (pe_tup (pa_cons (pv 2) (pa_cons (pe_callTy call_tuple_of (by rfl) T.tuple bTuple (pa_cons (pv 1) pa_nil)) pa_nil)))))), ?_⟩
    rcases h with ⟨ns, ms, hx, hy, l1, l2, k⟩ | ⟨hx, fl⟩ | ⟨hy, fl, ns, hx, l1⟩
    · refine ⟨_, rfl, x, rfl, .inl ⟨ns, hx, l1, fun q H1 s1 hq => ?_⟩⟩
      refine hrd (.inl ⟨ms, hy, l2⟩) _ _ _ s1 rfl (fun _ => rfl) (fun _ => rfl) (fun _ H2 s2 => ?_) (fun hb => (bad_not hy hb).elim)
      have s3 := s1.trans s2
      have hq2 := s2 _ _ hq
      have fin : ∀ r H', Same H2 H' → H' r = some (.tup (vI ms)) → (fun xs H1 => xs.length ≤ sizeLine ∧ ∀ p, H1 p = none → Q (.ref p) (upd H1 p (.tup xs))) [V.ref q, V.ref r] H' := fun r H' s4 hr =>
        ⟨by show 2 ≤ sizeLine; decide, fun t ht => k t q r _ ((s3.trans s4).trans (same_new ht)) upd_same (same_new ht _ _ (s4 _ _ hq2)) (same_new ht _ _ hr)⟩
      have hy2 := hy.mono s3
      refine iteF ⟨_, rfl, _, rfl, ?_⟩
      cases hy2 with
      | lst h => exact ⟨_, _, rfl, .inl ⟨SqL.of h, fun l hl => fin _ _ (same_new hl) upd_same⟩⟩
      | tup h => exact ⟨_, _, rfl, .inr ⟨SqT.of h, fin _ _ (Same.refl _) h⟩⟩
    · exact ⟨_, rfl, x, rfl, .inr ⟨hx, fl⟩⟩
    · refine ⟨_, rfl, x, rfl, .inl ⟨ns, hx, l1, fun q H1 s1 hq => ?_⟩⟩
      refine hrd (.inr hy) _ _ _ s1 rfl (fun _ => rfl) (fun _ => rfl) (fun ⟨_, z⟩ => (bad_not z hy).elim) (fun _ H2 s2 => ?_)
      exact iteT ⟨_, rfl, fun d hd => fl d _ ((s1.trans s2).trans (same_new hd)) upd_same⟩
end
end K45
namespace K45
open PySem L2 M45
abbrev sCoarse : Stmt := topS 20
section
variable {base : Heap} {P : Program} {w : World} {K : PySem.W.Frag} {mg : Str → Option Value}
/-! coarser_lots -/
def spCoarse : Sp := fun vs H Q _ => ∃ (p : Addr) (L : List Nat), vs = [.ref p] ∧ H p = some (.tup (vN L)) ∧ (∀ m ∈ L, 3 ≤ m ∧ m < 1000) ∧ 2 ^ (divs L).length ≤ 8100 ∧ ∀ q xs H', Same H H' → H' q = some (.lst xs) → TsAt H' xs (coarse L) → Q (.ref q) H'
abbrev NCo : List Str := ["lot", "divisors", "found", "modulus", "divisor", "longer", "some", "one"]
theorem scCoarse : FnScope NCo ["lot"] (defScope sCoarse) := ⟨rfl, rfl, rfl, by decide +kernel, rfl, by decide +kernel, by decide +kernel⟩
abbrev scIn1 : Scope := { kind := .function, names := [(".0", .local), ("some", .local), ("all", .globalImplicit), ("divisor", .cell)], isGenerator := false, isCoroutine := false }
theorem TupN.put {H : Hp} {x : V} {A : List Nat} {D : Addr} {l : List V} {o : HO} (h : TupN H x A) (hD : H D = some (.lst l)) : TupN (upd H D o) x A := by
  obtain ⟨t, e, z⟩ := h
  refine ⟨t, e, ?_⟩
  rw [upd_ne fun q => by rw [q, hD] at z; cases z]
  exact z
theorem TsAt.put {H : Hp} {D : Addr} {l : List V} {o : HO} (hD : H D = some (.lst l)) : ∀ {xs : List V} {F : List (List Nat)}, TsAt H xs F → TsAt (upd H D o) xs F
  | _, _, .nil => .nil
  | _, _, .cons r t => .cons (TupN.put r hD) (TsAt.put hD t)
theorem range3_at {n i : Nat} (h : i < n) : (List.range' 3 n)[i]? = some (3 + i) := by
  rw [List.getElem?_range' h]
  simp
theorem grow_take {ds : List Nat} {i d : Nat} (h : ds[i]? = some d) : lotsOf (ds.take (i + 1)) = grow (lotsOf (ds.take i)) d := by
  rw [take_snoc h, lotsOf_snoc]
theorem flat_take {L : List Nat} {i m : Nat} (h : L[i]? = some m) : (L.take (i + 1)).flatMap divsOne = (L.take i).flatMap divsOne ++ divsOne m := by
  rw [take_snoc h, List.flatMap_append, List.flatMap_singleton]
theorem pow_len {n : Nat} (h : 2 ^ n ≤ 8100) : n ≤ 13 := Decidable.byContradiction fun c => by
  have : 2 ^ 14 ≤ 2 ^ n := Nat.pow_le_pow_right (by decide) (by omega)
  have e : 2 ^ 14 = 16384 := rfl
  omega
theorem eqN (a b : Nat) : decide (V.int (a : Int) = V.int (b : Int)) = decide (a = b) := by
  by_cases h : a = b
  · subst h
    simp
  · rw [decide_eq_false h, decide_eq_false]
    intro e
    exact h (Int.ofNat.inj (V.int.inj e))
theorem ok_coarse {f : Addr} {fd : FuncData} (F : Fun K "coarser_lots" "coarser_lots" sCoarse f fd) (T : Nms mg) (C2 : Callee P w K mg base CX0 1 "common_divisor" ["one", "other"] spCd) :
    FnOk P w K mg base CX0 2 f fd ["lot"] spCoarse := by
  obtain ⟨f2, fd2, G2, b2, m2, k2⟩ := C2.ex
  refine F.ok scCoarse (fun vs H Q E h => ?_) (fun cdv A outer s H vs Q E hr h => ?_)
  · obtain ⟨p, A, rfl, _⟩ := h
    rfl
  · obtain ⟨p, L, rfl, hp, hL, hd, k⟩ := h
    refine ⟨_, pss_cons (ps_par (i := 1) (j := 2) rfl scCoarse.nd rfl rfl (by decide) rfl rfl (pa_cons (pe_lst pa_nil) (pa_cons (pe_lst (pa_cons (pe_tup pa_nil) pa_nil)) pa_nil)) (by rfl))
      (pss_cons (ps_for PassesOwn.never rfl (pi_tup (pv 0)) (pg_name (i := 3) scCoarse.nd rfl (.inr rfl)) (pss_one (ps_expr (pe_bm PySem.F.plainAttrs_list PySem.F.slot_list_extend PySem.F.type_list_extend mt_extend (pv 1) (pa_cons
          (pe_lc (own := [("divisor", 4)]) (g := gName 4) rfl scCoarse.nd (pi_range2 (by rfl) T.range (pa_cons pe_int (pa_cons (pe_op op_add (pv 3) pe_int) pa_nil))) (blkOk_by (N := NCo) (sc := defScope sCoarse) (by decide +kernel))
              (fun _ _ _ _ _ => pg_name (i := 4) scCoarse.nd rfl (Or.inl rfl)) (fun _ _ _ _ _ => pts_one (pt_cmpR op_eq (pe_op op_mod (pv 3) (pv 4)) pe_int (nomark _))) (fun _ _ _ _ _ => pv 4)) pa_nil)))))
      (pss_cons (ps_for PassesOwn.never rfl (pi_list (pe_callB cr_sortedI (by rfl) T.sorted bSorted (pa_cons (pv 1) pa_nil))) (pg_name (i := 4) scCoarse.nd rfl (.inr rfl)) (pss_cons
          (ps_setLc (i := 5) (own := [("some", 6)]) (g := gName 6) (tt := tTest (tCB (rAll K) (tCons (tLc (iTup K (tVar 6)) (gName 7) tYes (tOp rEq (tCall spCd [] E0 (tCons (tVar 4) (tCons (tVar 7) tNil))) (tC (.int 1))) [7]) tNil))) rfl scCoarse.nd rfl rfl
            (sw_true rfl rfl rfl rfl) (pi_list (pv 2)) (blkOk_by (N := NCo) (sc := defScope sCoarse) (by decide +kernel))
            (fun _ _ _ _ _ => pg_name (i := 6) scCoarse.nd rfl (Or.inl rfl)) (fun _ _ _ _ _ => pts_one (pt_val (pe_callB (cr_all rfl) (by rfl) T.all bAll (pa_cons
              (pe_lc (own := [("one", 7)]) (g := gName 7) (tt := tYes) rfl scCoarse.nd (pi_tup (pv 6)) (blkOk_by (N := NCo) (sc := scIn1) (by decide +kernel))
              (fun _ _ _ _ _ => pg_name (i := 7) scCoarse.nd rfl (Or.inl rfl)) (fun _ _ _ _ _ => pts_nil) (fun _ _ _ _ _ => pe_cmpR op_eq (pe_call G2 hr (by rfl) m2 k2 b2 .nil pass0 (pa_cons (pv 4) (pa_cons (pv 7) pa_nil))) pe_int (nomark _))) pa_nil)))) (fun _ _ _ _ _ => pv 6))
          (pss_one (ps_set (i := 2) scCoarse.nd rfl (.inl rfl) (pe_op op_cat (pv 2)
            (pe_lc (own := [("some", 6)]) (g := gName 6) (tt := tYes) (te := tTup (StX.tStar K (tVar 6) (tCons (tVar 4) tNil))) rfl scCoarse.nd (pi_list (pv 5)) (blkOk_by (N := NCo) (sc := defScope sCoarse) (by decide +kernel))
              (fun _ _ _ _ _ => pg_name (i := 6) scCoarse.nd rfl (Or.inl rfl)) (fun _ _ _ _ _ => pts_nil) (fun _ _ _ _ _ => pe_tup (StX.pa_star (pv 6) (pa_cons (pv 4) pa_nil)))))))))
        (pss_one (ps_ret (pv 2))))), ?_⟩
    have hdl := pow_len hd
    have hpl : (L.flatMap divsOne).length ≤ 13 := by
      have := (srt_perm (L.flatMap divsOne)).length_eq
      unfold divs at hdl
      omega
    refine ⟨Nat.zero_le _, fun l hl => ⟨Nat.zero_le _, fun t ht => ⟨by show 1 ≤ sizeLine; decide, fun q hq => ⟨_, _, rfl, ?_⟩⟩⟩⟩
    have s3 : Same H (upd (upd (upd H l (.lst [])) t (.tup [])) q (.lst [.ref t])) := ((same_new hl).trans (same_new ht)).trans (same_new hq)
    have htl : t ≠ l := fun e => by
      rw [e, upd_same] at ht
      cases ht
    have hql : q ≠ l := fun e => by
      rw [e, upd_ne (Ne.symm htl), upd_same] at hq
      cases hq
    have hqt : q ≠ t := fun e => by
      rw [e, upd_same] at hq
      cases hq
    have z1 : upd (upd (upd H l (.lst [])) t (.tup [])) q (.lst [.ref t]) l = some (.lst (vN [])) := by
      rw [upd_ne (Ne.symm hql), upd_ne (Ne.symm htl), upd_same]
      rfl
    have z2 : upd (upd (upd H l (.lst [])) t (.tup [])) q (.lst [.ref t]) t = some (.tup (vN [])) := by
      rw [upd_ne (Ne.symm hqt), upd_same]
      rfl
    have z3 : upd (upd (upd H l (.lst [])) t (.tup [])) q (.lst [.ref t]) q = some (.lst [.ref t]) := upd_same
    generalize upd (upd (upd H l (.lst [])) t (.tup [])) q (.lst [.ref t]) = H0 at s3 z1 z2 z3 ⊢
    refine ⟨_, rfl, p, rfl, ⟨_, SqT.of (s3 _ _ hp)⟩, for_tup (K := K) (a := p) (xs := vN L) (fun i σ H' => ∃ v, σ = [some (.ref p), some (.ref l), some (.ref q), v, none, none, none, none] ∧ Same H H' ∧ H' l = some (.lst (vN ((L.take i).flatMap divsOne))) ∧ H' t = some (.tup (vN [])) ∧ H' q = some (.lst [.ref t]))
      ⟨none, rfl, s3, z1, z2, z3⟩ (fun i σ H' _ ⟨_, _, e, _⟩ => SqT.of (e _ _ hp)) ?_ ?_⟩
    · rintro i x σ H' hi ⟨v, rfl, s4, hl4, ht4, hq4⟩
      obtain ⟨z, hz, rfl⟩ := map_at hi
      obtain ⟨m, hm, rfl⟩ := map_at hz
      obtain ⟨m3, m4⟩ := hL m (at_mem hm)
      have hsl : ((L.take i).flatMap divsOne ++ divsOne m).length ≤ 13 := by
        rw [← flat_take hm]
        have e : (L.take (i + 1) ++ L.drop (i + 1)).flatMap divsOne = L.flatMap divsOne := by rw [List.take_append_drop]
        rw [List.flatMap_append] at e
        have e2 := congrArg List.length e
        rw [List.length_append] at e2
        omega
      rw [flat_take hm]
      refine ⟨_, rfl, .inl ⟨rfl, _, SqL.of hl4⟩, _, rfl, _, _, rfl, rfl, 3, ((m : Int) + 1), rfl, ⟨by decide, by decide, by omega, by omega⟩, fun D hD => ?_⟩
      have en : ((m : Int) + 1 - 3).toNat = m - 2 := by omega
      rw [en]
      refine loopR (lo := 3) (fun j H2 => Cw H' D (vN (((List.range' 3 (m - 2)).take j).filter fun d => decide (m % d = 0))) H2) (Cw.start hD) ?_ ?_
      · intro j H2 hj cw
        have hr3 := range3_at hj
        have e3 : (3 : Int) + (j : Int) = ((3 + j : Nat) : Int) := by omega
        rw [e3, take_snoc hr3, List.filter_append]
        have h0 : 0 < 3 + j := by omega
        have hsm : (vN (((List.range' 3 (m - 2)).take j).filter fun d => decide (m % d = 0))).length < 100000 := by
          have := List.length_filter_le (fun d => decide (m % d = 0)) ((List.range' 3 (m - 2)).take j)
          rw [List.length_take] at this
          rw [List.length_map, List.length_map]
          omega
        generalize 3 + j = d at h0 ⊢
        refine ⟨rfl, ?_⟩
        refine ⟨_, rfl, _, rfl, _, _, rfl, rfl, (by omega), rfl, _, rfl, ?_⟩
        have ed : decide (V.int ((m : Int) % (d : Int)) = V.int 0) = decide (m % d = 0) := eqN (m % d) 0
        rw [ed]
        by_cases c : m % d = 0
        · rw [decide_eq_true c]
          refine iteT ⟨_, rfl, ?_⟩
          exact cw.put (Same.refl _) hsm (by simp [c])
        · rw [decide_eq_false c]
          exact iteF (cw.skip (Same.refl _) (by simp [c]))
      · intro H2 cw
        have ef : (List.range' 3 (m - 2)).take (m - 2) = List.range' 3 (m - 2) := List.take_of_length_le (by simp)
        rw [ef] at cw
        have hl5 := cw.same _ _ hl4
        have hDl : D ≠ l := fun e => by
          rw [e, hl4] at hD
          cases hD
        refine ⟨l, D, _, _, rfl, rfl, hl5, cw.here, ?_, ?_⟩
        · rw [List.length_map, List.length_map, List.length_map, List.length_map]
          have : (divsOne m).length ≤ 13 := by rw [List.length_append] at hsl; omega
          have h2 : ((L.take i).flatMap divsOne).length ≤ 13 := by rw [List.length_append] at hsl; omega
          unfold divsOne at this
          exact Nat.le_trans (Nat.add_le_add h2 this) (by decide)
        · refine ⟨some (.int (m : Int)), rfl, same_mut (s4.trans cw.same) hl, ?_, ?_, ?_⟩
          · rw [upd_same]
            unfold vN vI iN
            rw [List.map_append, List.map_append]
            rfl
          · rw [upd_ne htl]
            exact cw.same _ _ ht4
          · rw [upd_ne hql]
            exact cw.same _ _ hq4
    · rintro σ H1 ⟨v, rfl, s4, hl4, ht4, hq4⟩
      rw [List.length_map, List.length_map, take_all] at hl4
      refine ⟨_, rfl, l, iN (L.flatMap divsOne), rfl, SqL.of hl4, fun ns' b hperm hpw hb => ?_⟩
      have en : ns' = iN (divs L) := srt_int hperm hpw
      subst en
      have s5 : Same H1 (upd H1 b (.lst (vN (divs L)))) := same_new hb
      have hb5 : upd H1 b (.lst (vN (divs L))) b = some (.lst (vN (divs L))) := upd_same
      generalize upd H1 b (.lst (vN (divs L))) = H2 at s5 hb5 ⊢
      have lenF : ∀ i, (lotsOf ((divs L).take i)).length ≤ 8100 := fun i => by
        refine Nat.le_trans (lotsOf_len _) (Nat.le_trans (Nat.pow_le_pow_right (by decide) ?_) hd)
        rw [List.length_take]
        omega
      have lenA : ∀ i, ∀ A ∈ lotsOf ((divs L).take i), A.length ≤ 13 := fun i A hA => by
        have h1 := ((lotsOf_mem _ _).mp hA).1.length_le
        rw [List.length_take] at h1
        omega
      refine ⟨b, rfl, ⟨_, SqL.of hb5⟩, for_list (K := K) (a := b) (xs := vN (divs L)) (fun i σ H' => ∃ qF xs v4 v5, σ = [some (.ref p), some (.ref l), some (.ref qF), v, v4, v5, none, none] ∧ Same H2 H' ∧ H' qF = some (.lst xs) ∧ TsAt H' xs (lotsOf ((divs L).take i)))
        ⟨q, [.ref t], none, none, rfl, Same.refl _, s5 _ _ hq4, TsAt.one ⟨t, rfl, s5 _ _ ht4⟩⟩ (fun i σ H' _ ⟨_, _, _, _, _, e, _⟩ => SqL.of (e _ _ hb5)) ?_ ?_⟩
      · rintro i x σ H' hi ⟨qF, xs, v4, v5, rfl, s6, hqF, hxs⟩
        obtain ⟨z, hz, rfl⟩ := map_at hi
        obtain ⟨d, hdi, rfl⟩ := map_at hz
        rw [grow_take hdi]
        have hF := lenF i
        have hA := lenA i
        have hF1 := lenF (i + 1)
        rw [grow_take hdi] at hF1
        generalize lotsOf ((divs L).take i) = Fs at hxs hF hA hF1 ⊢
        have hlx := hxs.len
        refine ⟨_, rfl, qF, rfl, ⟨_, SqL.of hqF⟩, fun D hD => loopL (K := K) (a := qF) (xs := xs) (fun j H3 => ∃ out, Cw H' D out H3 ∧ TsAt H3 out ((Fs.take j).filter fun A => goes A d)) ⟨[], Cw.start hD, .nil⟩ (fun j H3 _ ⟨_, cw, _⟩ => SqL.of (cw.same _ _ hqF)) ?_ ?_⟩
        · rintro j x H3 hj ⟨out, cw, ho⟩
          obtain ⟨Aj, hAj, hT⟩ := hxs.get hj
          have hAl := hA _ (at_mem hAj)
          rw [take_snoc hAj, List.filter_append]
          have hsm : out.length < 100000 := by
            rw [ho.len]
            have := List.length_filter_le (fun A => goes A d) (Fs.take j)
            rw [List.length_take] at this
            omega
          refine ⟨rfl, ?_⟩
          have hT3 := hT.mono cw.same
          obtain ⟨tA, rfl, htA⟩ := hT3
          refine ⟨_, rfl, tA, rfl, ⟨_, SqT.of htA⟩, fun D2 hD2 => loopT (K := K) (a := tA) (xs := vN Aj) (fun n H4 => Cw H3 D2 ((Aj.take n).map fun (o : Nat) => V.bl (decide (Nat.gcd d o = 1))) H4) (Cw.start hD2) (fun n H4 _ c4 => SqT.of (c4.same _ _ htA)) ?_ ?_⟩
          · intro n y H4 hn c4
            obtain ⟨z, hz, rfl⟩ := map_at hn
            obtain ⟨o, hoA, rfl⟩ := map_at hz
            have hln := at_lt hoA
            refine ⟨rfl, ?_⟩
            refine ⟨_, rfl, _, rfl, d, o, rfl, rfl, ?_⟩
            refine c4.put (Same.refl _) (by rw [List.length_map, List.length_take]; omega) ?_
            rw [take_snoc hoA, List.map_append]
            show _ = _ ++ [V.bl (decide (V.int (Nat.gcd d o : Nat) = V.int ((1 : Nat) : Int)))]
            rw [eqN]
            rfl
          · intro H4 c4
            have e : (Aj.take (vN Aj).length).map (fun (o : Nat) => V.bl (decide (Nat.gcd d o = 1))) = (Aj.map fun (o : Nat) => decide (Nat.gcd d o = 1)).map V.bl := by
              rw [List.length_map, List.length_map, take_all, List.map_map]
              rfl
            rw [e] at c4
            refine ⟨D2, _, rfl, SqL.of c4.here, ?_⟩
            have e2 : (Aj.map fun (o : Nat) => decide (Nat.gcd d o = 1)).all id = goes Aj d := by
              unfold goes
              rw [List.all_map]
              rfl
            rw [e2]
            refine ⟨_, rfl, ?_⟩
            cases hg : goes Aj d with
            | true =>
              refine iteT ⟨_, rfl, ?_⟩
              have hfil : [Aj].filter (fun A => goes A d) = [Aj] := by simp [hg]
              rw [hfil]
              obtain ⟨acc, ha, hz, c5⟩ := cw.put (y := .ref tA) (out' := out ++ [.ref tA]) c4.same hsm rfl
              exact ⟨acc, ha, hz, _, c5, TsAt.app ((ho.mono c4.same).put ha) (TsAt.one (TupN.put ⟨tA, rfl, c4.same _ _ htA⟩ ha))⟩
            | false =>
              refine iteF ?_
              have hfil : [Aj].filter (fun A => goes A d) = [] := by simp [hg]
              rw [hfil, List.append_nil]
              exact ⟨out, cw.skip c4.same rfl, ho.mono c4.same⟩
        · rintro H3 ⟨out, cw, ho⟩
          rw [hlx, take_all] at ho
          unfold grow
          have hlo := ho.len
          have hGl : (Fs.filter fun A => goes A d).length ≤ 8100 := Nat.le_trans (List.length_filter_le _ _) hF
          have hGA : ∀ A ∈ Fs.filter fun A => goes A d, A.length ≤ 13 := fun A hA' => hA A (List.mem_filter.mp hA').1
          generalize (Fs.filter fun A => goes A d) = Gs at ho hlo hGl hGA ⊢
          have hqF3 := cw.same _ _ hqF
          have hD3 := cw.here
          refine ⟨_, rfl, _, rfl, D, rfl, ⟨_, SqL.of hD3⟩, fun D2 hD2 => loopL (K := K) (a := D) (xs := out) (fun j H4 => ∃ out2, Cw H3 D2 out2 H4 ∧ TsAt H4 out2 ((Gs.take j).map (· ++ [d]))) ⟨[], Cw.start hD2, .nil⟩ (fun j H4 _ ⟨_, c4, _⟩ => SqL.of (c4.same _ _ hD3)) ?_ ?_⟩
          · rintro j y H4 hj ⟨out2, c4, ho2⟩
            obtain ⟨Aj, hAj, hT⟩ := ho.get hj
            have hAl := hGA _ (at_mem hAj)
            have hjl := at_lt hAj
            rw [take_snoc hAj, List.map_append]
            have hsm : out2.length < 100000 := by
              rw [ho2.len, List.length_map, List.length_take]
              omega
            refine ⟨rfl, ?_⟩
            obtain ⟨tA, rfl, htA⟩ := hT.mono c4.same
            refine ⟨_, rfl, tA, _, rfl, .inl (SqT.of htA), _, rfl, ?_, fun u hu => ?_⟩
            · rw [List.length_append, List.length_map, List.length_map]
              show Aj.length + 1 ≤ sizeLine
              exact sz (by omega)
            · have s7 : Same H4 (upd H4 u (.tup (vN Aj ++ [V.int (d : Int)]))) := same_new hu
              have hu7 : upd H4 u (.tup (vN Aj ++ [V.int (d : Int)])) u = some (.tup (vN (Aj ++ [d]))) := by
                rw [upd_same]
                unfold vN vI iN
                rw [List.map_append, List.map_append]
                rfl
              obtain ⟨acc, ha, hz, c5⟩ := c4.put (y := .ref u) (out' := out2 ++ [.ref u]) s7 hsm rfl
              exact ⟨acc, ha, hz, _, c5, TsAt.app ((ho2.mono s7).put ha) (TsAt.one (TupN.put ⟨u, rfl, hu7⟩ ha))⟩
          · rintro H4 ⟨out2, c4, ho2⟩
            rw [hlo, take_all] at ho2
            refine ⟨qF, D2, xs, out2, rfl, rfl, c4.same _ _ hqF3, c4.here, ?_, fun r hr2 => ?_⟩
            · rw [hlx, ho2.len, List.length_map]
              exact sz (by omega)
            · have s8 : Same H4 (upd H4 r (.lst (xs ++ out2))) := same_new hr2
              have s9 : Same H' (upd H4 r (.lst (xs ++ out2))) := (cw.same.trans c4.same).trans s8
              exact ⟨r, xs ++ out2, some (.int (d : Int)), some (.ref D), rfl, s6.trans s9, upd_same, TsAt.app (hxs.mono s9) (ho2.mono s8)⟩
      · rintro σ H' ⟨qF, xs, v4, v5, rfl, s6, hqF, hxs⟩
        have eL : (vN (divs L)).length = (divs L).length := by rw [List.length_map, List.length_map]
        rw [eL, take_all] at hxs
        exact ⟨_, rfl, k _ _ _ ((s4.trans s5).trans s6) hqF hxs⟩
end
end K45
namespace K45
open PySem L2 M45
abbrev sPoss : Stmt := topS 21
abbrev sGP : Stmt := topS 23
abbrev sNext : Stmt := topS 24
/-- what the refusals leave -/
def left (L : List Nat) (ms : List Int) : List (List Nat) := (coarse L).filter fun A => !(ms.any fun c => fit A c)
theorem under_asc {L A : List Nat} (h : Under L A) : A.Pairwise (· ≤ ·) := h.lt.imp fun z => Nat.le_of_lt z
theorem coarse_big {L A : List Nat} (hL : Lot L) (h : A ∈ coarse L) : ∀ m ∈ A, 3 ≤ m := fun m hm => (((coarse_mem hL).mp h).dv m hm).1
theorem coarse_alen {L A : List Nat} (hd : 2 ^ (divs L).length ≤ 8100) (h : A ∈ coarse L) : A.length ≤ 13 := by
  have h1 := ((lotsOf_mem _ _).mp h).1.length_le
  have h2 := pow_len hd
  omega
theorem left_heads {L : List Nat} {ms : List Int} (hL : Lot L) : (∀ A ∈ left L ms, A ≠ []) ∨ ∃ r, left L ms = [] :: r := by
  obtain ⟨r, e⟩ := lotsOf_head (divs L)
  have e : coarse L = [] :: r := e
  cases ms with
  | nil =>
    refine .inr ⟨r, ?_⟩
    unfold left
    rw [← e]
    exact List.filter_eq_self.mpr fun _ _ => rfl
  | cons c ms =>
    refine .inl fun A hA hn => ?_
    subst hn
    have := (List.mem_filter.mp hA).2
    simp [fit] at this
section
variable {base : Heap} {P : Program} {w : World} {K : PySem.W.Frag} {mg : Str → Option Value}
/-! possible_lots -/
def spPoss (CQ CR : Addr) : Sp := fun vs H Q E => ∃ x y, vs = [x, y] ∧
  ((∃ ns ms L, IntsAt H x ns ∧ IntsAt H y ms ∧ ns.length ≤ 12 ∧ ms.length ≤ 1000 ∧ lotOf ns = some L ∧ prodN L < 90 ∧ ∀ q xs G H', Same H H' → H' q = some (.tup xs) → TsAt H' xs G → G.Perm (left L ms) → LexS G → Q (.ref q) H') ∨
   (Bad H x ∧ Flies CQ 0 H E) ∨ (Bad H y ∧ Flies CQ 1 H E ∧ ∃ ns, IntsAt H x ns ∧ ns.length ≤ 1000) ∨
   (∃ ns ms, IntsAt H x ns ∧ IntsAt H y ms ∧ ns.length ≤ 12 ∧ ms.length ≤ 1000 ∧ lotOf ns = none ∧ Flies CR 0 H E))
abbrev NPo : List Str := ["yes", "no", "some", "others", "lot", "one", "count"]
theorem scPoss : FnScope NPo ["yes", "no"] (defScope sPoss) := ⟨rfl, rfl, rfl, by decide +kernel, rfl, by decide +kernel, by decide +kernel⟩
abbrev scIn2 : Scope := { kind := .function, names := [(".0", .local), ("one", .cell), ("any", .globalImplicit), ("others", .cell)], isGenerator := false, isCoroutine := false }
theorem ok_poss {f CQ CR fI : Addr} {fd : FuncData} (F : Fun K "possible_lots" "possible_lots" sPoss f fd) (T : Nms mg) (TR : PySem.ErrX.ErrTxt P K mg "Refused" CR fI)
    (C1 : Callee P w K mg base (L2.CX P w) 4 "checked_tellings" ["yes", "no"] (spChT CQ)) (C2 : Callee P w K mg base CX0 4 "lot_of" ["counts"] spLotOf) (C3 : Callee P w K mg base CX0 2 "coarser_lots" ["lot"] spCoarse) (C4 : Callee P w K mg base CX0 4 "fits" ["lot", "count"] spFits) :
    FnOk P w K mg base (L2.CX P w) 5 f fd ["yes", "no"] (spPoss CQ CR) := by
  obtain ⟨f1, fd1, G1, b1, m1, k1⟩ := C1.ex
  obtain ⟨f2, fd2, G2, b2, m2, k2⟩ := C2.ex
  obtain ⟨f3, fd3, G3, b3, m3, k3⟩ := C3.ex
  obtain ⟨f4, fd4, G4, b4, m4, k4⟩ := C4.ex
  refine F.okX scPoss (fun vs H Q E h => ?_) (fun cdv A outer s H vs Q E hr h => ?_)
  · obtain ⟨x, y, rfl, _⟩ := h
    rfl
  · obtain ⟨x, y, rfl, h⟩ := h
    refine ⟨_, pss_cons (ps_asg (pe_call G1 hr (by rfl) m1 k1 b1 .nil (L2.passes_call (takes_of rfl rfl rfl rfl) fun _ _ _ _ h => h) (pa_cons (pv 0) (pa_cons (pv 1) pa_nil))) (pg_tup (by rfl) (pgs_cons (pg_name (i := 2) scPoss.nd rfl (.inl rfl)) (pgs_cons (pg_name (i := 3) scPoss.nd rfl (.inr rfl)) pgs_nil))))
      (pss_cons (ps_set (i := 4) scPoss.nd rfl (.inl rfl) (pe_call G2 hr (by rfl) m2 k2 b2 .nil pass0 (pa_cons (pv 2) pa_nil)))
      (pss_cons (ps_if (pt_cmpR op_isN (pv 4) pe_non (nomark _)) (pss_one (ps_raiseErr rfl TR hr (takes_of rfl rfl rfl rfl) (by exact (pa_cons pe_int pa_nil)) (by rfl))) pss_nil)
      (pss_one (ps_ret (pe_callTy call_tuple_of (by rfl) T.tuple bTuple (pa_cons (pe_callB (cr_sortTI hr.units) (by rfl) T.sorted bSorted (pa_cons
        (pe_lc (own := [("one", 5)]) (g := gName 5) (tt := tNot (tB (tCB (rAny K) (tCons (tLc (iTup K (tVar 3)) (gName 6) tYes (tCall spFits [] E0 (tCons (tVar 5) (tCons (tVar 6) tNil))) [6]) tNil)))) rfl scPoss.nd
          (pi_list (pe_call G3 (hr.mono (by decide)) (by rfl) m3 k3 b3 .nil pass0 (pa_cons (pv 4) pa_nil))) (blkOk_by (N := NPo) (sc := defScope sPoss) (by decide +kernel))
          (fun _ _ _ _ _ => pg_name (i := 5) scPoss.nd rfl (Or.inr rfl)) (fun _ _ _ _ _ => pts_one (pt_not (pt_val (pe_callB (cr_any rfl) (by rfl) T.any bAny (pa_cons
            (pe_lc (own := [("count", 6)]) (g := gName 6) (tt := tYes) rfl scPoss.nd (pi_tup (pv 3)) (blkOk_by (N := NPo) (sc := scIn2) (by decide +kernel))
              (fun _ _ _ _ _ => pg_name (i := 6) scPoss.nd rfl (Or.inl rfl)) (fun _ _ _ _ _ => pts_nil) (fun _ _ _ _ _ => pe_call G4 hr (by rfl) m4 k4 b4 .nil pass0 (pa_cons (pv 5) (pa_cons (pv 6) pa_nil)))) pa_nil))))) (fun _ _ _ _ _ => pv 5)) pa_nil)) pa_nil)))))), ?_⟩
    rcases h with ⟨ns, ms, L, hx, hy, l1, l2, hlo, hW, k⟩ | ⟨hx, fl⟩ | ⟨hy, fl, hx⟩ | ⟨ns, ms, hx, hy, l1, l2, hlo, fl⟩
    · obtain ⟨ep, hLot⟩ := lotOf_some hlo
      have hdp := divs_pow hLot hW
      refine ⟨_, rfl, _, rfl, x, y, rfl, .inl ⟨ns, ms, hx, hy, by omega, l2, fun t q r H1 s1 ht hq hr1 => ?_⟩⟩
      refine ⟨t, _, rfl, SqT.of ht, rfl, _, _, rfl, _, _, rfl, rfl, ?_⟩
      refine ⟨_, rfl, _, ns, rfl, .tup hq, l1, (fun z => by rw [hlo] at z; cases z), fun L' e z H2 s2 hz => ?_⟩
      rw [hlo] at e
      obtain rfl := Option.some.inj e
      obtain ⟨tL, rfl, htL⟩ := hz
      refine ⟨_, rfl, rfl, _, rfl, iteF ?_⟩
      refine ⟨_, rfl, tL, L, rfl, htL, fun m hm => ⟨hLot.big m hm, by have := prod_le_mem hLot.big m hm; omega⟩, hdp, fun qC xs H3 s3 hqC hxs => ?_⟩
      have hr3 := s3 _ _ (s2 _ _ hr1)
      have hlx := hxs.len
      have hCl : (coarse L).length ≤ 8100 := Nat.le_trans (lotsOf_len _) hdp
      refine ⟨qC, rfl, ⟨_, SqL.of hqC⟩, fun D hD => loopL (K := K) (a := qC) (xs := xs) (fun j H4 => ∃ out, Cw H3 D out H4 ∧ TsAt H4 out (((coarse L).take j).filter fun A => !(ms.any fun c => fit A c))) ⟨[], Cw.start hD, .nil⟩ (fun j H4 _ ⟨_, cw, _⟩ => SqL.of (cw.same _ _ hqC)) ?_ ?_⟩
      · rintro j x' H4 hj ⟨out, cw, ho⟩
        obtain ⟨Aj, hAj, hT⟩ := hxs.get hj
        have hAm := at_mem hAj
        have hU := (coarse_mem hLot).mp hAm
        have hAl := coarse_alen hdp hAm
        rw [take_snoc hAj, List.filter_append]
        have hsm : out.length < 100000 := by
          rw [ho.len]
          have := List.length_filter_le (fun A => !(ms.any fun c => fit A c)) ((coarse L).take j)
          rw [List.length_take] at this
          omega
        refine ⟨rfl, ?_⟩
        obtain ⟨tA, rfl, htA⟩ := hT.mono cw.same
        have hr4 := cw.same _ _ hr3
        refine ⟨_, rfl, r, rfl, ⟨_, SqT.of hr4⟩, fun D2 hD2 => loopT (K := K) (a := r) (xs := vI ms) (fun n H5 => Cw H4 D2 ((ms.take n).map fun c => V.bl (fit Aj c)) H5) (Cw.start hD2) (fun n H5 _ c5 => SqT.of (c5.same _ _ hr4)) ?_ ?_⟩
        · intro n y' H5 hn c5
          obtain ⟨c, hc, rfl⟩ := map_at hn
          have hln := at_lt hc
          refine ⟨rfl, ?_⟩
          refine ⟨_, rfl, _, rfl, tA, Aj, c, rfl, ⟨c5.same _ _ htA, under_asc hU, coarse_big hLot hAm, hU.cop, by omega⟩, fun H6 s6 => ?_⟩
          refine c5.put s6 (by rw [List.length_map, List.length_take]; omega) ?_
          rw [take_snoc hc, List.map_append]
          rfl
        · intro H5 c5
          have e : (ms.take (vI ms).length).map (fun c => V.bl (fit Aj c)) = (ms.map fun c => fit Aj c).map V.bl := by
            rw [List.length_map, take_all, List.map_map]
            rfl
          rw [e] at c5
          refine ⟨D2, _, rfl, SqL.of c5.here, _, rfl, ?_⟩
          have e2 : (ms.map fun c => fit Aj c).any id = ms.any fun c => fit Aj c := by
            rw [List.any_map]
            rfl
          rw [e2]
          cases hg : ms.any fun c => fit Aj c with
          | false =>
            refine iteT ⟨_, rfl, ?_⟩
            have hfil : [Aj].filter (fun A => !(ms.any fun c => fit A c)) = [Aj] := by simp [hg]
            rw [hfil]
            obtain ⟨acc, ha, hz, c6⟩ := cw.put (y := .ref tA) (out' := out ++ [.ref tA]) c5.same hsm rfl
            exact ⟨acc, ha, hz, _, c6, TsAt.app ((ho.mono c5.same).put ha) (TsAt.one (TupN.put ⟨tA, rfl, c5.same _ _ htA⟩ ha))⟩
          | true =>
            refine iteF ?_
            have hfil : [Aj].filter (fun A => !(ms.any fun c => fit A c)) = [] := by simp [hg]
            rw [hfil, List.append_nil]
            exact ⟨out, cw.skip c5.same rfl, ho.mono c5.same⟩
      · rintro H4 ⟨out, cw, ho⟩
        rw [hlx, take_all] at ho
        refine ⟨D, out, keyOf H4, rfl, SqL.of cw.here, sort_args ho, sort_heads ho (left_heads hLot), fun ys p2 hperm hpw hp2 => ?_⟩
        obtain ⟨G, hG, hGp, hGs⟩ := sorted_lots ho hperm hpw
        have s7 : Same H4 (upd H4 p2 (.lst ys)) := same_new hp2
        refine ⟨p2, ys, rfl, .inl ⟨SqL.of upd_same, fun l hl => ?_⟩⟩
        have s8 := s7.trans (same_new (o := .tup ys) hl)
        exact k l ys G _ ((((s1.trans s2).trans s3).trans cw.same).trans s8) upd_same (hG.mono s8) hGp hGs
    · exact ⟨_, rfl, _, rfl, x, y, rfl, .inr (.inl ⟨hx, fl⟩)⟩
    · exact ⟨_, rfl, _, rfl, x, y, rfl, .inr (.inr ⟨hy, fl, hx⟩)⟩
    · refine ⟨_, rfl, _, rfl, x, y, rfl, .inl ⟨ns, ms, hx, hy, by omega, l2, fun t q r H1 s1 ht hq hr1 => ?_⟩⟩
      refine ⟨t, _, rfl, SqT.of ht, rfl, _, _, rfl, _, _, rfl, rfl, ?_⟩
      refine ⟨_, rfl, _, ns, rfl, .tup hq, l1, (fun _ H2 s2 => ?_), fun L' e => by rw [hlo] at e; cases e⟩
      exact ⟨_, rfl, rfl, _, rfl, iteT ⟨_, rfl, fun d hd => fl d _ ((s1.trans s2).trans (same_new hd)) upd_same⟩⟩
/-! greater_part -/
def spGP : Sp := fun vs H Q _ => ∃ (q : Addr) (xs : List V) (F : List (List Nat)) (n : Int), vs = [.ref q, .int n] ∧ H q = some (.tup xs) ∧ TsAt H xs F ∧ (∀ A ∈ F, (∀ m ∈ A, 0 < m) ∧ A.length ≤ 1000) ∧ F.length ≤ 10000 ∧ ∀ H', Same H H' → Q (.int (part F n : Nat)) H'
abbrev NGP : List Str := ["lots", "count", "many", "lot"]
theorem scGP : FnScope NGP ["lots", "count"] (defScope sGP) := ⟨rfl, rfl, rfl, by decide +kernel, rfl, by decide +kernel, by decide +kernel⟩
theorem ok_GP {f : Addr} {fd : FuncData} (F : Fun K "greater_part" "greater_part" sGP f fd) (T : Nms mg) (C1 : Callee P w K mg base CX0 1 "leaves" ["lot", "count"] spLeaves) :
    FnOk P w K mg base CX0 2 f fd ["lots", "count"] spGP := by
  obtain ⟨f1, fd1, G1, b1, m1, k1⟩ := C1.ex
  refine F.ok scGP (fun vs H Q E h => ?_) (fun cdv A outer s H vs Q E hr h => ?_)
  · obtain ⟨_, _, _, _, rfl, _⟩ := h
    rfl
  · obtain ⟨q, xs, Fs, n, rfl, hq, hxs, hA, hF, k⟩ := h
    refine ⟨_, pss_cons (ps_set (i := 2) scGP.nd rfl (.inl rfl) (pe_callB call_len_seq (by rfl) T.len bLen (pa_cons
        (pe_lc (own := [("lot", 3)]) (g := gName 3) (tt := tTest (tCall spLeaves [] E0 (tCons (tVar 3) (tCons (tVar 1) tNil)))) rfl scGP.nd (pi_tup (pv 0)) (blkOk_by (N := NGP) (sc := defScope sGP) (by decide +kernel))
          (fun _ _ _ _ _ => pg_name (i := 3) scGP.nd rfl (Or.inl rfl)) (fun _ _ _ _ _ => pts_one (pt_val (pe_call G1 hr (by rfl) m1 k1 b1 .nil pass0 (pa_cons (pv 3) (pa_cons (pv 1) pa_nil))))) (fun _ _ _ _ _ => pv 3)) pa_nil)))
      (pss_one (ps_ret (pe_callB (call_max2 rfl) (by rfl) T.max bMax (pa_cons (pv 2) (pa_cons (pe_op op_sub (pe_callB call_len_seq (by rfl) T.len bLen (pa_cons (pv 0) pa_nil)) (pv 2)) pa_nil))))), ?_⟩
    have hlx := hxs.len
    refine ⟨_, rfl, q, rfl, ⟨_, SqT.of hq⟩, fun D hD => loopT (K := K) (a := q) (xs := xs) (fun j H2 => ∃ out, Cw H D out H2 ∧ out.length = ((Fs.take j).filter fun A => fit A n).length) ⟨[], Cw.start hD, rfl⟩ (fun j H2 _ ⟨_, cw, _⟩ => SqT.of (cw.same _ _ hq)) ?_ ?_⟩
    · rintro j x H2 hj ⟨out, cw, ho⟩
      obtain ⟨Aj, hAj, hT⟩ := hxs.get hj
      obtain ⟨h0, h1⟩ := hA _ (at_mem hAj)
      rw [take_snoc hAj, List.filter_append, List.length_append]
      have hsm : out.length < 100000 := by
        rw [ho]
        have := List.length_filter_le (fun A => fit A n) (Fs.take j)
        rw [List.length_take] at this
        omega
      refine ⟨rfl, ?_⟩
      obtain ⟨tA, rfl, htA⟩ := hT.mono cw.same
      refine ⟨_, rfl, _, rfl, tA, Aj, n, rfl, htA, h0, h1, fun H3 s3 => ⟨_, rfl, ?_⟩⟩
      cases hg : fit Aj n with
      | true =>
        refine iteT ⟨_, rfl, ?_⟩
        obtain ⟨acc, ha, hz, c5⟩ := cw.put (y := .ref tA) (out' := out ++ [.ref tA]) s3 hsm rfl
        refine ⟨acc, ha, hz, _, c5, ?_⟩
        rw [List.length_append, ho]
        simp [hg]
      | false =>
        refine iteF ⟨out, cw.skip s3 rfl, ?_⟩
        rw [ho]
        simp [hg]
    · rintro H2 ⟨out, cw, ho⟩
      rw [hlx, take_all] at ho
      have hm : out.length = many Fs n := ho
      refine ⟨D, out, rfl, .inl (SqL.of cw.here), ?_⟩
      refine ⟨_, rfl, _, rfl, q, xs, rfl, .inr (SqT.of (cw.same _ _ hq)), _, rfl, _, _, rfl, rfl, _, _, rfl, ?_⟩
      have hle := many_le Fs n
      have e : (if ((xs.length : Int) - (out.length : Int)) > (out.length : Int) then ((xs.length : Int) - (out.length : Int)) else (out.length : Int)) = ((part Fs n : Nat) : Int) := by
        rw [hlx, hm]
        unfold part
        split <;> omega
      rw [e]
      exact k _ cw.same
end
end K45
namespace K45
open PySem L2 M45
def bestV (F : List (List Nat)) (W : Nat) : V := match (best F W).1 with
  | none => .non
  | some b => .int (b : Int)
section
variable {base : Heap} {P : Program} {w : World} {K : PySem.W.Frag} {mg : Str → Option Value}
/-! next_question -/
def spNext (CQ CR : Addr) : Sp := fun vs H Q E => ∃ x y, vs = [x, y] ∧
  ((∃ ns ms L due, IntsAt H x ns ∧ IntsAt H y ms ∧ ns.length ≤ 12 ∧ ms.length ≤ 1000 ∧ lotOf ns = some L ∧ prodN L < 90 ∧ due.Perm (left L ms) ∧ LexS due ∧ (due = [] → Flies CR 1 H E) ∧ (due ≠ [] → ∀ H', Same H H' → Q (bestV due (prodN L)) H')) ∨
   (Bad H x ∧ Flies CQ 0 H E) ∨ (Bad H y ∧ Flies CQ 1 H E ∧ ∃ ns, IntsAt H x ns ∧ ns.length ≤ 1000) ∨
   (∃ ns ms, IntsAt H x ns ∧ IntsAt H y ms ∧ ns.length ≤ 12 ∧ ms.length ≤ 1000 ∧ lotOf ns = none ∧ Flies CR 0 H E))
abbrev NNx : List Str := ["yes", "no", "lots", "best", "least", "count", "part"]
theorem scNext : FnScope NNx ["yes", "no"] (defScope sNext) := ⟨rfl, rfl, rfl, by decide +kernel, rfl, by decide +kernel, by decide +kernel⟩
theorem ok_next {f CQ CR fI : Addr} {fd : FuncData} (F : Fun K "next_question" "next_question" sNext f fd) (T : Nms mg) (TR : PySem.ErrX.ErrTxt P K mg "Refused" CR fI)
    (C1 : Callee P w K mg base (L2.CX P w) 5 "possible_lots" ["yes", "no"] (spPoss CQ CR)) (C2 : Callee P w K mg base CX0 4 "lot_of" ["counts"] spLotOf) (C3 : Callee P w K mg base CX0 1 "whole_of" ["lot"] spWhole) (C4 : Callee P w K mg base CX0 2 "greater_part" ["lots", "count"] spGP) :
    FnOk P w K mg base (L2.CX P w) 6 f fd ["yes", "no"] (spNext CQ CR) := by
  obtain ⟨f1, fd1, G1, b1, m1, k1⟩ := C1.ex
  obtain ⟨f2, fd2, G2, b2, m2, k2⟩ := C2.ex
  obtain ⟨f3, fd3, G3, b3, m3, k3⟩ := C3.ex
  obtain ⟨f4, fd4, G4, b4, m4, k4⟩ := C4.ex
  refine F.okX scNext (fun vs H Q E h => ?_) (fun cdv A outer s H vs Q E hr h => ?_)
  · obtain ⟨x, y, rfl, _⟩ := h
    rfl
  · obtain ⟨x, y, rfl, h⟩ := h
    refine ⟨_, pss_cons (ps_set (i := 2) scNext.nd rfl (.inl rfl) (pe_call G1 hr (by rfl) m1 k1 b1 .nil (L2.passes_call (takes_of rfl rfl rfl rfl) fun _ _ _ _ h => h) (pa_cons (pv 0) (pa_cons (pv 1) pa_nil))))
      (pss_cons (ps_if (pt_cmpR op_eq (pe_callB call_len_seq (by rfl) T.len bLen (pa_cons (pv 2) pa_nil)) pe_int (nomark _)) (pss_one (ps_raiseErr rfl TR hr (takes_of rfl rfl rfl rfl) (by exact (pa_cons pe_int pa_nil)) (by rfl))) pss_nil)
      (pss_cons (ps_if (pt_cmpR op_eq (pe_callB call_len_seq (by rfl) T.len bLen (pa_cons (pv 2) pa_nil)) pe_int (nomark _)) (pss_one (ps_ret pe_non)) pss_nil)
      (pss_cons (ps_par (i := 3) (j := 4) rfl scNext.nd rfl rfl (by decide) rfl rfl (pa_cons pe_int (pa_cons (pe_callB call_len_seq (by rfl) T.len bLen (pa_cons (pv 2) pa_nil)) pa_nil)) (by rfl))
      (pss_cons (ps_for (passes_of rfl) rfl (pi_range1 (by rfl) T.range (pa_cons (pe_call G3 (hr.mono (by decide)) (by rfl) m3 k3 b3 .nil pass0 (pa_cons (pe_call G2 (hr.mono (by decide)) (by rfl) m2 k2 b2 .nil pass0 (pa_cons (pv 0) pa_nil)) pa_nil)) pa_nil)) (pg_name (i := 5) scNext.nd rfl (.inl rfl))
        (pss_cons (ps_set (i := 6) scNext.nd rfl (.inl rfl) (pe_call G4 (hr.mono (by decide)) (by rfl) m4 k4 b4 .nil pass0 (pa_cons (pv 2) (pa_cons (pv 5) pa_nil))))
        (pss_one (ps_if (pt_cmpR op_lt (pv 6) (pv 4) (nomark _)) (pss_one (ps_par (i := 3) (j := 4) rfl scNext.nd rfl rfl (by decide) rfl rfl (pa_cons (pv 5) (pa_cons (pv 6) pa_nil)) (by rfl))) pss_nil))))
      (pss_one (ps_ret (pv 3))))))), ?_⟩
    rcases h with ⟨ns, ms, L, due, hx, hy, l1, l2, hlo, hW, hdp, hds, kn, k⟩ | hx | hy | h0
    · obtain ⟨ep, hLot⟩ := lotOf_some hlo
      refine ⟨_, rfl, _, rfl, x, y, rfl, .inl ⟨ns, ms, L, hx, hy, l1, l2, hlo, hW, fun q xs G H1 s1 hq hxs hGp hGs => ?_⟩⟩
      obtain rfl : G = due := lex_uniq (hGp.trans hdp.symm) hGs hds
      have hlx := hxs.len
      refine ⟨_, rfl, q, xs, rfl, .inr (SqT.of hq), rfl, _, rfl, ?_⟩
      by_cases c0 : G = []
      · subst c0
        have e0 : xs.length = 0 := hlx
        rw [e0]
        exact iteT ⟨_, rfl, fun d hd => kn rfl d _ (s1.trans (same_new hd)) upd_same⟩
      · have k := k c0
        have hne : xs.length ≠ 0 := fun z => c0 (List.length_eq_zero_iff.mp (hlx.symm.trans z))
        have e0 : decide (V.int (xs.length : Int) = V.int 0) = false := (eqN xs.length 0).trans (decide_eq_false hne)
        rw [e0]
        refine iteF ⟨_, rfl, q, xs, rfl, .inr (SqT.of hq), rfl, _, rfl, ?_⟩
        have e1 : decide (V.int (xs.length : Int) = V.int 1) = decide (xs.length = 1) := eqN xs.length 1
        rw [e1]
        by_cases c1 : xs.length = 1
        · rw [decide_eq_true c1]
          refine iteT ?_
          have z := k H1 s1
          unfold bestV at z
          rw [best_one (by omega)] at z
          exact z
        · rw [decide_eq_false c1]
          refine iteF ⟨_, rfl, q, xs, rfl, .inr (SqT.of hq), _, _, rfl, ?_⟩
          refine ⟨_, rfl, x, ns, rfl, hx.mono s1, l1, (fun z => by rw [hlo] at z; cases z), fun L' e z H2 s2 hz => ?_⟩
          rw [hlo] at e
          obtain rfl := Option.some.inj e
          obtain ⟨tL, rfl, htL⟩ := hz
          refine ⟨tL, L, rfl, htL, fun m hm => by have := prod_le_mem hLot.big m hm; omega, _, rfl, by omega, by omega, ?_⟩
          have eW : ((prodN L : Nat) : Int).toNat = prodN L := by omega
          rw [eW]
          refine for_range (lo := 0) (n := prodN L) (fun i σ H' => ∃ v5 v6, σ = [some x, some y, some (.ref q), some (.int ((List.range i).foldl (turnP G) (0, G.length)).1), some (.int ((((List.range i).foldl (turnP G) (0, G.length)).2 : Nat) : Int)), v5, v6] ∧ Same H1 H') ⟨none, none, (by rw [← hlx]; rfl), s2⟩ ?_ ?_
          · rintro i σ H' hi ⟨v5, v6, rfl, s3⟩
            have e3 : (0 : Int) + (i : Int) = (i : Int) := by omega
            rw [e3, List.range_succ, List.foldl_append]
            generalize (List.range i).foldl (turnP G) (0, G.length) = st
            refine ⟨_, rfl, _, rfl, q, xs, G, (i : Int), rfl, s3 _ _ hq, hxs.mono s3, fun A hA => ?_, ?_, fun H3 s4 => ?_⟩
            · have hAm := (List.mem_filter.mp (hGp.mem_iff.mp hA)).1
              exact ⟨fun m hm => by have := coarse_big hLot hAm m hm; omega, by have := coarse_alen (divs_pow hLot hW) hAm; omega⟩
            · rw [hGp.length_eq]
              exact Nat.le_trans (List.length_filter_le _ _) (Nat.le_trans (coarse_len hLot hW) (by decide))
            · refine ⟨_, rfl, _, rfl, _, _, rfl, rfl, _, rfl, ?_⟩
              have et : List.foldl (turnP G) st [i] = if part G (i : Int) < st.2 then ((i : Int), part G (i : Int)) else st := rfl
              rw [et]
              by_cases c : part G (i : Int) < st.2
              · rw [decide_eq_true (show ((part G (i : Int) : Nat) : Int) < (st.2 : Int) by omega), if_pos c]
                exact iteT ⟨_, rfl, _, rfl, _, _, rfl, some (.int (i : Int)), some (.int ((part G (i : Int) : Nat) : Int)), rfl, s3.trans s4⟩
              · rw [decide_eq_false (show ¬ ((part G (i : Int) : Nat) : Int) < (st.2 : Int) by omega), if_neg c]
                exact iteF ⟨some (.int (i : Int)), some (.int ((part G (i : Int) : Nat) : Int)), rfl, s3.trans s4⟩
          · rintro σ H' ⟨v5, v6, rfl, s3⟩
            refine ⟨_, rfl, ?_⟩
            rw [prog_best]
            obtain ⟨b, hb⟩ := best_some (F := G) hLot (hGp.nodup_iff.mpr ((coarse_nodup hLot).sublist List.filter_sublist)) (fun A hA => (coarse_mem hLot).mp (List.mem_filter.mp (hGp.mem_iff.mp hA)).1) (by omega)
            have z := k H' (s1.trans s3)
            unfold bestV at z
            rw [hb] at z ⊢
            exact z
    · exact ⟨_, rfl, _, rfl, x, y, rfl, .inr (.inl hx)⟩
    · exact ⟨_, rfl, _, rfl, x, y, rfl, .inr (.inr (.inl hy))⟩
    · exact ⟨_, rfl, _, rfl, x, y, rfl, .inr (.inr (.inr h0))⟩
end
end K45
namespace K45
open PySem L2 M45
abbrev sDivL : Stmt := topS 30
abbrev sPartsL : Stmt := topS 33
abbrev sFitsL : Stmt := topS 34
abbrev sBestL : Stmt := topS 38
section
variable {base : Heap} {P : Program} {w : World} {K : PySem.W.Frag} {mg : Str → Option Value}
/-! _law_divisor -/
theorem scDivL : FnScope ["_law_one", "_law_other"] ["_law_one", "_law_other"] (defScope sDivL) := ⟨rfl, rfl, rfl, by decide +kernel, rfl, by decide +kernel, by decide +kernel⟩
theorem ok_divL {f : Addr} {fd : FuncData} (F : Fun K "_law_divisor" "_law_divisor" sDivL f fd) (T : Nms mg) : FnOk P w K mg base CX0 1 f fd ["_law_one", "_law_other"] spCd := by
  refine F.ok scDivL (fun vs H Q E h => ?_) (fun cdv A outer s H vs Q E hr h => ?_)
  · obtain ⟨a, b, rfl, _⟩ := h
    rfl
  · obtain ⟨a, b, rfl, k⟩ := h
    refine ⟨_, pss_cons (ps_while PassesOwn.never (pt_cmpR op_ne (pv 1) pe_int (nomark _)) (pss_one (ps_par (i := 0) (j := 1) rfl scDivL.nd rfl rfl (by decide) rfl rfl
        (pa_cons (pv 1) (pa_cons (pe_op op_mod (pe_callTy call_int1 (by rfl) T.int bInt (pa_cons (pv 0) pa_nil)) (pv 1)) pa_nil)) (by rfl))))
      (pss_one (ps_ret (pv 0))), ?_⟩
    refine ⟨fun m σ H' => ∃ x y : Nat, σ = [some (.int (x : Int)), some (.int (y : Int))] ∧ Nat.gcd x y = Nat.gcd a b ∧ H' = H ∧ m = y, ⟨b, a, b, rfl, rfl, rfl, rfl⟩, ?_⟩
    rintro m σ H' ⟨x, y, rfl, hg, rfl, rfl⟩
    refine ⟨_, rfl, rfl, _, rfl, ?_⟩
    by_cases c : m = 0
    · subst c
      refine iteNS rfl ⟨_, rfl, ?_⟩
      have e : x = Nat.gcd a b := (Nat.gcd_zero_right x).symm.trans hg
      rw [e]
      exact k
    · have e : (!decide (V.int (m : Int) = V.int 0)) = true := by simp [c]
      rw [e]
      refine iteT ⟨fun σ' H'' => ∃ m', m' < m ∧ ∃ x y : Nat, σ' = [some (.int (x : Int)), some (.int (y : Int))] ∧ Nat.gcd x y = Nat.gcd a b ∧ H'' = H' ∧ m' = y, fun _ _ z => z, ?_⟩
      refine ⟨_, rfl, _, rfl, .inl ⟨_, rfl, ?_⟩⟩
      exact ⟨_, rfl, _, _, rfl, rfl, (by omega), _, _, rfl, x % m, Nat.mod_lt x (by omega), m, x % m, rfl, by rw [← hg, Nat.gcd_comm m, ← Nat.gcd_rec, Nat.gcd_comm], rfl, rfl⟩
/-! _law_parts -/
def spPartsL : Sp := fun vs H Q _ => ∃ (p : Addr) (ns : List Int), vs = [.ref p] ∧ H p = some (.lst (vI ns)) ∧ ns.length ≤ 12 ∧ ∀ q H', Same H H' → H q = none → H' q = some (.lst (vN (parts ns))) → Q (.ref q) H'
abbrev NPa : List Str := ["_law_counts", "_law_found", "_law_n", "_law_longer", "_law_one"]
theorem scPartsL : FnScope NPa ["_law_counts"] (defScope sPartsL) := ⟨rfl, rfl, rfl, by decide +kernel, rfl, by decide +kernel, by decide +kernel⟩
theorem none_back {H H' : Hp} {q : Addr} (s : Same H H') (h : H' q = none) : H q = none := by
  cases e : H q with
  | none => rfl
  | some u =>
    rw [s _ _ e] at h
    cases h
theorem step1_snoc {ns : List Int} {i : Nat} {c : Int} (h : ns[i]? = some c) : (ns.take (i + 1)).foldl step1 [0] = step1 ((ns.take i).foldl step1 [0]) c := by
  rw [take_snoc h, List.foldl_append]
  rfl
theorem step1_lens : ∀ (cs : List Int) (f : List Nat), (cs.foldl step1 f).length ≤ 2 ^ cs.length * f.length
  | [], f => by simp
  | c :: cs, f => by
    have h1 := step1_lens cs (step1 f c)
    have h2 := step1_len f c
    show (cs.foldl step1 (step1 f c)).length ≤ _
    rw [List.length_cons, Nat.pow_succ]
    calc _ ≤ 2 ^ cs.length * (step1 f c).length := h1
      _ ≤ 2 ^ cs.length * (2 * f.length) := Nat.mul_le_mul_left _ h2
      _ = _ := by rw [Nat.mul_assoc]
theorem ok_partsL {f : Addr} {fd : FuncData} (F : Fun K "_law_parts" "_law_parts" sPartsL f fd) (T : Nms mg) (C1 : Callee P w K mg base CX0 1 "_law_divisor" ["_law_one", "_law_other"] spCd) :
    FnOk P w K mg base CX0 2 f fd ["_law_counts"] spPartsL := by
  obtain ⟨f1, fd1, G1, b1, m1, k1⟩ := C1.ex
  refine F.ok scPartsL (fun vs H Q E h => ?_) (fun cdv A outer s H vs Q E hr h => ?_)
  · obtain ⟨p, A, rfl, _⟩ := h
    rfl
  · obtain ⟨p, ns, rfl, hp, hl, k⟩ := h
    refine ⟨_, pss_cons (ps_set (i := 1) scPartsL.nd rfl (.inl rfl) (pe_lst (pa_cons pe_int pa_nil)))
      (pss_cons (ps_for PassesOwn.never rfl (pi_list (pv 0)) (pg_name (i := 2) scPartsL.nd rfl (.inl rfl)) (pss_cons (ps_set (i := 3) scPartsL.nd rfl (.inl rfl) (pe_lst pa_nil))
          (pss_cons (ps_for PassesOwn.never rfl (pi_list (pv 1)) (pg_name (i := 4) scPartsL.nd rfl (.inl rfl)) (pss_one (ps_set (i := 3) scPartsL.nd rfl (.inl rfl) (pe_op op_cat (pv 3) (pe_lst
              (pa_cons (pe_call G1 hr (by rfl) m1 k1 b1 .nil pass0 (pa_cons (pe_callB call_abs (by rfl) T.abs bAbs (pa_cons (pv 2) pa_nil)) (pa_cons (pv 4) pa_nil)))
              (pa_cons (pe_call G1 hr (by rfl) m1 k1 b1 .nil pass0 (pa_cons (pe_callB call_abs (by rfl) T.abs bAbs (pa_cons (pe_op op_sub (pv 2) pe_int) pa_nil)) (pa_cons (pv 4) pa_nil))) pa_nil)))))))
          (pss_one (ps_setLc (i := 1) (own := [("_law_one", 4)]) (g := gName 4) rfl scPartsL.nd rfl rfl (sw_true rfl rfl rfl rfl) (pi_list (pv 3)) (blkOk_by (N := NPa) (sc := defScope sPartsL) (by decide +kernel))
              (fun _ _ _ _ _ => pg_name (i := 4) scPartsL.nd rfl (Or.inl rfl)) (fun _ _ _ _ _ => pts_one (PW.pt (pw_or (pt_cmpR op_eq (pv 4) pe_int (nomark _)) (pw_or1 (pt_cmpR op_gt (pv 4) pe_int (nomark _)))))) (fun _ _ _ _ _ => pv 4))))))
      (pss_one (ps_ret (pe_callB cr_sortedI (by rfl) T.sorted bSorted (pa_cons (pv 1) pa_nil))))), ?_⟩
    have hlen : ∀ i, ((ns.take i).foldl step1 [0]).length ≤ 4096 := fun i => by
      have h1 := step1_lens (ns.take i) [0]
      rw [List.length_singleton, Nat.mul_one] at h1
      refine Nat.le_trans h1 (show _ ≤ 2 ^ 12 from Nat.pow_le_pow_right (by decide) ?_)
      rw [List.length_take]
      omega
    refine ⟨by show 1 ≤ sizeLine; decide, fun l hl1 => ?_⟩
    refine ⟨_, rfl, p, rfl, ⟨_, SqL.of (same_new hl1 _ _ hp)⟩, for_list (K := K) (a := p) (xs := vI ns) (fun i σ H' => ∃ q v v3 v4, σ = [some (.ref p), some (.ref q), v, v3, v4] ∧ Same H H' ∧ H' q = some (.lst (vN ((ns.take i).foldl step1 [0])))) ⟨l, none, none, none, rfl, same_new hl1, upd_same⟩ (fun i σ H' _ ⟨_, _, _, _, _, e, _⟩ => SqL.of (e _ _ hp)) ?_ ?_⟩
    · rintro i x σ H' hi ⟨q, v, v3, v4, rfl, s1, hq⟩
      obtain ⟨c, hc, rfl⟩ := map_at hi
      rw [step1_snoc hc]
      have hf := hlen i
      generalize (ns.take i).foldl step1 [0] = f at hq hf
      refine ⟨Nat.zero_le _, fun d hd => ?_⟩
      have s2 : Same H' (upd H' d (.lst [])) := same_new hd
      refine ⟨_, rfl, q, rfl, ⟨_, SqL.of (s2 _ _ hq)⟩, for_list (K := K) (a := q) (xs := vN f) (fun j σ H2 => ∃ r v4, σ = [some (.ref p), some (.ref q), some (.int c), some (.ref r), v4] ∧ Same H' H2 ∧ H2 r = some (.lst (vN (pend (f.take j) c)))) ⟨d, v4, rfl, s2, upd_same⟩ (fun j σ H2 _ ⟨_, _, _, e, _⟩ => SqL.of (e _ _ hq)) ?_ ?_⟩
      · rintro j x σ H2 hj ⟨r, v4, rfl, s3, hr3⟩
        obtain ⟨z, hz, rfl⟩ := map_at hj
        obtain ⟨o, ho, rfl⟩ := map_at hz
        have hjl := at_lt ho
        rw [take_snoc ho, pend_snoc]
        refine ⟨_, rfl, _, rfl, c, rfl, _, rfl, c.natAbs, o, (by rw [abs_nat]; rfl), ?_⟩
        refine ⟨_, rfl, _, _, rfl, rfl, c - 1, rfl, _, rfl, (c - 1).natAbs, o, (by rw [abs_nat]; rfl), by show 2 ≤ sizeLine; decide, fun u hu => ?_⟩
        have s4 : Same H2 (upd H2 u (.lst [V.int (Nat.gcd c.natAbs o : Nat), V.int (Nat.gcd (c - 1).natAbs o : Nat)])) := same_new hu
        refine ⟨r, u, _, _, rfl, rfl, s4 _ _ hr3, upd_same, ?_, fun g hg => ?_⟩
        · rw [List.length_map, List.length_map, pend_len, List.length_take]
          exact sz (by show _ + 2 ≤ _; omega)
        · refine ⟨g, some (.int (o : Int)), rfl, (s3.trans s4).trans (same_new hg), ?_⟩
          rw [upd_same, Nat.gcd_comm c.natAbs, Nat.gcd_comm (c - 1).natAbs]
          unfold vN vI iN
          rw [List.map_append, List.map_append, List.map_append, List.map_append, List.append_assoc]
          rfl
      · rintro σ H2 ⟨r, v4, rfl, s3, hr3⟩
        rw [List.length_map, List.length_map, take_all] at hr3
        have hpl : (pend f c).length ≤ 8192 := by rw [pend_len]; omega
        unfold step1
        generalize pend f c = g at hr3 hpl ⊢
        refine ⟨_, rfl, r, rfl, ⟨_, SqL.of hr3⟩, fun D3 hD3 => loopL (K := K) (a := r) (xs := vN g) (fun j H4 => Cw H2 D3 (vN ((g.take j).filter keep)) H4) (Cw.start hD3) (fun j H4 _ c4 => SqL.of (c4.same _ _ hr3)) ?_ ?_⟩
        · intro j x H4 hj c4
          obtain ⟨z, hz, rfl⟩ := map_at hj
          obtain ⟨o, ho, rfl⟩ := map_at hz
          have hjl := at_lt ho
          have hsm : (vN ((g.take j).filter keep)).length < 100000 := by
            have := List.length_filter_le keep (g.take j)
            rw [List.length_take] at this
            rw [List.length_map, List.length_map]
            omega
          rw [take_snoc ho, List.filter_append]
          refine ⟨rfl, ?_⟩
          refine ⟨_, rfl, rfl, _, rfl, ?_⟩
          by_cases h0 : o = 0
          · subst h0
            refine iteT (iteT ⟨_, rfl, ?_⟩)
            exact c4.put (Same.refl _) hsm (by simp [keep])
          · have e : decide (V.int (o : Int) = V.int 0) = false := by simp [h0]
            rw [e]
            refine iteF ⟨_, rfl, _, _, rfl, rfl, _, rfl, ?_⟩
            by_cases h2 : 2 < o
            · rw [decide_eq_true (show (2 : Int) < (o : Int) by omega)]
              refine iteT ⟨_, rfl, ?_⟩
              exact c4.put (Same.refl _) hsm (by simp [keep, h2])
            · rw [decide_eq_false (show ¬ (2 : Int) < (o : Int) by omega)]
              refine iteF ?_
              exact c4.skip (Same.refl _) (by simp [keep, h0, h2])
        · intro H4 c4
          rw [List.length_map, List.length_map, take_all] at c4
          exact ⟨D3, _, _, _, rfl, (s1.trans s3).trans c4.same, c4.here⟩
    · rintro σ H' ⟨q, v, v3, v4, rfl, s1, hq⟩
      rw [List.length_map, take_all] at hq
      refine ⟨_, rfl, q, _, rfl, SqL.of hq, fun ns' b hperm hpw hb => ?_⟩
      refine k b _ (s1.trans (same_new hb)) (none_back s1 hb) ?_
      rw [upd_same, srt_int hperm hpw, ← partsL_eq]
      rfl
/-! _law_fits -/
abbrev NFi : List Str := ["_law_lot", "_law_n", "_law_q"]
theorem scFitsL : FnScope NFi ["_law_lot", "_law_n"] (defScope sFitsL) := ⟨rfl, rfl, rfl, by decide +kernel, rfl, by decide +kernel, by decide +kernel⟩
theorem fit_filter (A : List Nat) (c : Int) : decide ((A.filter fun (m : Nat) => decide (1 < c % (m : Int))) = []) = fit A c := by
  unfold fit
  refine Bool.eq_iff_iff.mpr ?_
  rw [decide_eq_true_eq, List.filter_eq_nil_iff, List.all_eq_true]
  exact ⟨fun h a ha => decide_eq_true (by have := h a ha; simp at this; omega), fun h a ha => by have := of_decide_eq_true (h a ha); simp; omega⟩
theorem ok_fitsL {f : Addr} {fd : FuncData} (F : Fun K "_law_fits" "_law_fits" sFitsL f fd) (T : Nms mg) : FnOk P w K mg base CX0 1 f fd ["_law_lot", "_law_n"] spLeaves := by
  refine F.ok scFitsL (fun vs H Q E h => ?_) (fun cdv A outer s H vs Q E hr h => ?_)
  · obtain ⟨p, A, c, rfl, _⟩ := h
    rfl
  · obtain ⟨p, L, c, rfl, hp, hb, hl, k⟩ := h
    refine ⟨_, pss_one (ps_ret (pe_cmpR (op_eqD hr.units) (pe_lc (own := [("_law_q", 2)]) (g := gName 2) rfl scFitsL.nd (pi_tup (pv 0)) (blkOk_by (N := NFi) (sc := defScope sFitsL) (by decide +kernel))
      (fun _ _ _ _ _ => pg_name (i := 2) scFitsL.nd rfl (Or.inl rfl)) (fun _ _ _ _ _ => pts_one (pt_cmpR op_gt (pe_op op_mod (pe_callTy call_int1 (by rfl) T.int bInt (pa_cons (pv 1) pa_nil)) (pv 2)) pe_int (nomark _))) (fun _ _ _ _ _ => pv 2)) (pe_lst pa_nil) (nomark _))), ?_⟩
    refine ⟨_, rfl, p, rfl, ⟨_, SqT.of hp⟩, fun D hD => loopT (K := K) (a := p) (xs := vN L) (fun i H' => Cw H D (vN ((L.take i).filter fun (m : Nat) => decide (1 < c % (m : Int)))) H') (Cw.start hD) (fun i H' _ cw => SqT.of (cw.same _ _ hp)) ?_ ?_⟩
    · intro i x H' hi cw
      obtain ⟨z, hz, rfl⟩ := map_at hi
      obtain ⟨m, hm, rfl⟩ := map_at hz
      have h0 := hb m (at_mem hm)
      have hlt := at_lt hm
      have hsm : (vN ((L.take i).filter fun (m : Nat) => decide (1 < c % (m : Int)))).length < 100000 := by
        have := List.length_filter_le (fun (m : Nat) => decide (1 < c % (m : Int))) (L.take i)
        rw [List.length_take] at this
        rw [List.length_map, List.length_map]
        omega
      rw [take_snoc hm, List.filter_append]
      refine ⟨rfl, ?_⟩
      refine ⟨_, rfl, .inl ⟨_, rfl, ?_⟩⟩
      refine ⟨_, rfl, _, _, rfl, rfl, (by omega), _, _, rfl, rfl, _, rfl, ?_⟩
      by_cases h2 : 1 < c % (m : Int)
      · rw [decide_eq_true h2]
        refine iteT ⟨_, rfl, ?_⟩
        exact cw.put (Same.refl _) hsm (by simp [h2])
      · rw [decide_eq_false h2]
        exact iteF (cw.skip (Same.refl _) (by simp [h2]))
    · intro H' cw
      rw [List.length_map, List.length_map, take_all] at cw
      refine ⟨Nat.zero_le _, fun l hl2 => ?_⟩
      refine ⟨_, _, dp_listI (same_new hl2 _ _ cw.here), dp_listI (ns := []) upd_same, shp_ints _, shp_ints _, ?_⟩
      rw [eqv_list_ints]
      have e : decide (iN (L.filter fun (m : Nat) => decide (1 < c % (m : Int))) = []) = fit L c := by
        rw [← fit_filter]
        refine Bool.eq_iff_iff.mpr ?_
        rw [decide_eq_true_eq, decide_eq_true_eq]
        exact List.map_eq_nil_iff
      rw [e]
      exact k _ (cw.same.trans (same_new hl2))
/-! _law_best -/
def spBestL : Sp := fun vs H Q _ => ∃ (q : Addr) (xs : List V) (F : List (List Nat)) (W : Nat), vs = [.ref q, .int (W : Int)] ∧ H q = some (.lst xs) ∧ TsAt H xs F ∧ (∀ A ∈ F, (∀ m ∈ A, 0 < m) ∧ A.length ≤ 1000) ∧ F.length ≤ 10000 ∧ W ≤ 1000 ∧ ∀ H', Same H H' → Q (bestV F W) H'
abbrev NBe : List Str := ["_law_lots", "_law_whole", "_law_found", "_law_least", "_law_n", "_law_many", "_law_one"]
theorem scBestL : FnScope NBe ["_law_lots", "_law_whole"] (defScope sBestL) := ⟨rfl, rfl, rfl, by decide +kernel, rfl, by decide +kernel, by decide +kernel⟩
def optV : Option Nat → V
  | none => .non
  | some n => .int (n : Int)
theorem bestV_opt (F : List (List Nat)) (W : Nat) : bestV F W = optV (best F W).1 := by
  unfold bestV optV
  rfl
theorem ok_bestL {f : Addr} {fd : FuncData} (F : Fun K "_law_best" "_law_best" sBestL f fd) (T : Nms mg) (C1 : Callee P w K mg base CX0 1 "_law_fits" ["_law_lot", "_law_n"] spLeaves) :
    FnOk P w K mg base CX0 2 f fd ["_law_lots", "_law_whole"] spBestL := by
  obtain ⟨f1, fd1, G1, b1, m1, k1⟩ := C1.ex
  refine F.ok scBestL (fun vs H Q E h => ?_) (fun cdv A outer s H vs Q E hr h => ?_)
  · obtain ⟨_, _, _, _, rfl, _⟩ := h
    rfl
  · obtain ⟨q, xs, Fs, W, rfl, hq, hxs, hA, hF, hW, k⟩ := h
    refine ⟨_, pss_cons (ps_par (i := 2) (j := 3) rfl scBestL.nd rfl rfl (by decide) rfl rfl (pa_cons pe_non (pa_cons (pe_callB call_len_seq (by rfl) T.len bLen (pa_cons (pv 0) pa_nil)) pa_nil)) (by rfl))
      (pss_cons (ps_for PassesOwn.never rfl (pi_range1 (by rfl) T.range (pa_cons (pv 1) pa_nil)) (pg_name (i := 4) scBestL.nd rfl (.inr rfl))
        (pss_cons (ps_set (i := 5) scBestL.nd rfl (.inl rfl) (pe_callB call_len_seq (by rfl) T.len bLen (pa_cons
            (pe_lc (own := [("_law_one", 6)]) (g := gName 6) (tt := tTest (tCall spLeaves [] E0 (tCons (tVar 6) (tCons (tVar 4) tNil)))) rfl scBestL.nd (pi_list (pv 0)) (blkOk_by (N := NBe) (sc := defScope sBestL) (by decide +kernel))
          (fun _ _ _ _ _ => pg_name (i := 6) scBestL.nd rfl (Or.inl rfl)) (fun _ _ _ _ _ => pts_one (pt_val (pe_call G1 hr (by rfl) m1 k1 b1 .nil pass0 (pa_cons (pv 6) (pa_cons (pv 4) pa_nil))))) (fun _ _ _ _ _ => pv 6)) pa_nil)))
        (pss_one (ps_if (pt_cmpR op_lt (pe_callB (call_max2 rfl) (by rfl) T.max bMax (pa_cons (pv 5) (pa_cons (pe_op op_sub (pe_callB call_len_seq (by rfl) T.len bLen (pa_cons (pv 0) pa_nil)) (pv 5)) pa_nil))) (pv 3) (nomark _))
          (pss_one (ps_par (i := 2) (j := 3) rfl scBestL.nd rfl rfl (by decide) rfl rfl (pa_cons (pv 4) (pa_cons (pe_callB (call_max2 rfl) (by rfl) T.max bMax (pa_cons (pv 5) (pa_cons (pe_op op_sub (pe_callB call_len_seq (by rfl) T.len bLen (pa_cons (pv 0) pa_nil)) (pv 5)) pa_nil))) pa_nil)) (by rfl))) pss_nil))))
      (pss_one (ps_ret (pv 2)))), ?_⟩
    have hlx := hxs.len
    refine ⟨_, rfl, q, xs, rfl, .inl (SqL.of hq), _, _, rfl, ?_⟩
    refine ⟨_, rfl, _, rfl, by omega, by omega, ?_⟩
    have eW : ((W : Nat) : Int).toNat = W := by omega
    rw [eW]
    refine for_range (lo := 0) (n := W) (fun i σ H' => ∃ v4 v5, σ = [some (.ref q), some (.int (W : Int)), some (optV ((List.range i).foldl (turnB Fs) (none, Fs.length)).1), some (.int ((((List.range i).foldl (turnB Fs) (none, Fs.length)).2 : Nat) : Int)), v4, v5, none] ∧ Same H H') ⟨none, none, (by rw [← hlx]; rfl), Same.refl _⟩ ?_ ?_
    · rintro i σ H' hi ⟨v4, v5, rfl, s1⟩
      have e3 : (0 : Int) + (i : Int) = (i : Int) := by omega
      rw [e3, List.range_succ, List.foldl_append]
      generalize (List.range i).foldl (turnB Fs) (none, Fs.length) = st
      have et : List.foldl (turnB Fs) st [i] = if part Fs (i : Int) < st.2 then (some i, part Fs (i : Int)) else st := rfl
      have hq1 := s1 _ _ hq
      have hxs1 := hxs.mono s1
      refine ⟨_, rfl, q, rfl, ⟨_, SqL.of hq1⟩, fun D hD => loopL (K := K) (a := q) (xs := xs) (fun j H2 => ∃ out, Cw H' D out H2 ∧ out.length = ((Fs.take j).filter fun A => fit A (i : Int)).length) ⟨[], Cw.start hD, rfl⟩ (fun j H2 _ ⟨_, cw, _⟩ => SqL.of (cw.same _ _ hq1)) ?_ ?_⟩
      · rintro j x H2 hj ⟨out, cw, ho⟩
        obtain ⟨Aj, hAj, hT⟩ := hxs1.get hj
        obtain ⟨h0, h1⟩ := hA _ (at_mem hAj)
        rw [take_snoc hAj, List.filter_append, List.length_append]
        have hsm : out.length < 100000 := by
          rw [ho]
          have := List.length_filter_le (fun A => fit A (i : Int)) (Fs.take j)
          rw [List.length_take] at this
          omega
        refine ⟨rfl, ?_⟩
        obtain ⟨tA, rfl, htA⟩ := hT.mono cw.same
        refine ⟨_, rfl, _, rfl, tA, Aj, (i : Int), rfl, htA, h0, h1, fun H3 s3 => ⟨_, rfl, ?_⟩⟩
        cases hg : fit Aj (i : Int) with
        | true =>
          refine iteT ⟨_, rfl, ?_⟩
          obtain ⟨acc, ha, hz, c5⟩ := cw.put (y := .ref tA) (out' := out ++ [.ref tA]) s3 hsm rfl
          refine ⟨acc, ha, hz, _, c5, ?_⟩
          rw [List.length_append, ho]
          simp [hg]
        | false =>
          refine iteF ⟨out, cw.skip s3 rfl, ?_⟩
          rw [ho]
          simp [hg]
      · rintro H2 ⟨out, cw, ho⟩
        rw [hlx, take_all] at ho
        have hm : out.length = many Fs (i : Int) := ho
        have hle := many_le Fs (i : Int)
        have e : (if ((xs.length : Int) - (out.length : Int)) > (out.length : Int) then ((xs.length : Int) - (out.length : Int)) else (out.length : Int)) = ((part Fs (i : Int) : Nat) : Int) := by
          rw [hlx, hm]
          unfold part
          split <;> omega
        have hq2 := cw.same _ _ hq1
        refine ⟨D, out, rfl, .inl (SqL.of cw.here), ?_⟩
        refine ⟨_, rfl, _, rfl, q, xs, rfl, .inl (SqL.of hq2), _, rfl, _, _, rfl, rfl, _, _, rfl, ?_⟩
        rw [e, et]
        refine ⟨_, rfl, _, _, rfl, rfl, _, rfl, ?_⟩
        by_cases c : part Fs (i : Int) < st.2
        · rw [decide_eq_true (show ((part Fs (i : Int) : Nat) : Int) < (st.2 : Int) by omega), if_pos c]
          refine iteT ⟨_, rfl, _, rfl, _, rfl, q, xs, rfl, .inl (SqL.of hq2), _, rfl, _, _, rfl, rfl, _, _, rfl, ?_⟩
          rw [e]
          exact ⟨_, _, rfl, some (.int (i : Int)), some (.int (out.length : Int)), rfl, s1.trans cw.same⟩
        · rw [decide_eq_false (show ¬ ((part Fs (i : Int) : Nat) : Int) < (st.2 : Int) by omega), if_neg c]
          exact iteF ⟨some (.int (i : Int)), some (.int (out.length : Int)), rfl, s1.trans cw.same⟩
    · rintro σ H' ⟨v4, v5, rfl, s1⟩
      refine ⟨_, rfl, ?_⟩
      have z := k H' s1
      rw [bestV_opt] at z
      exact z
end
end K45
namespace K45
open PySem L2 M45
abbrev sCoL : Stmt := topS 35
abbrev sAsk : Stmt := topS 37
theorem goes_filter {A : List Nat} {d : Nat} (hd : 0 < d) : decide ((A.filter fun (p : Nat) => decide (1 < Nat.gcd p d)) = []) = goes A d := by
  unfold goes
  refine Bool.eq_iff_iff.mpr ?_
  rw [decide_eq_true_eq, List.filter_eq_nil_iff, List.all_eq_true]
  have pos : ∀ a, 0 < Nat.gcd a d := fun a => Nat.gcd_pos_of_pos_right a hd
  exact ⟨fun h a ha => decide_eq_true (by have h1 := h a ha; have h2 := pos a; rw [Nat.gcd_comm]; rw [decide_eq_true_eq] at h1; omega), fun h a ha => by have := of_decide_eq_true (h a ha); rw [Nat.gcd_comm] at this; simp; omega⟩
theorem top_of {L : List Nat} {m : Int} (h1 : m ∈ (3 : Int) :: iN L) (h2 : ∀ y, y ∈ (3 : Int) :: iN L → y ≤ m) : m = (top L : Nat) := by
  obtain ⟨t1, t2⟩ := le_top L 3
  have a1 : m ≤ (top L : Nat) := by
    rcases List.mem_cons.mp h1 with e | h
    · unfold top; omega
    · obtain ⟨n, hn, rfl⟩ := iN_mem.mp h
      have := t2 n hn
      unfold top; omega
  have a2 : ((top L : Nat) : Int) ≤ m := by
    rcases top_mem L 3 with e | h
    · have := h2 3 List.mem_cons_self
      unfold top; omega
    · exact h2 _ (List.mem_cons_of_mem _ (iN_mem.mpr ⟨_, h, rfl⟩))
  omega
/-- what a call of the law's asking gives -/
def Ask (H : Hp) (Q : VK) (tag : Str) (v : V) : Prop := ∀ t H', Same H H' → H' t = some (.tup [.str tag, v]) → Q (.ref t) H'
structure CalleeKw (P : Program) (w : World) (K : PySem.W.Frag) (mg : Str → Option Value) (base : Heap) (CX : CXT) (k : Nat) (x : Str) (ps : List Str) (sp : Sp) : Prop where
  ex : ∃ (f : Addr) (fd : FuncData), FnOk P w K mg base CX k f fd ps sp ∧ (∀ (s : Shared) (ws : List Value), ws.length = ps.length → BindsTo s fd ⟨[], ps.zip ws⟩ (ps.zip ws)) ∧ mg x = some (.ref f) ∧ PySem.W.keepIn K (.ref f) = true
theorem cat_lot {K : PySem.W.Frag} {H : Hp} {a p : Addr} {L : List Nat} {C : V → Hp → Prop} (ha : H a = some (.tup [V.int 3])) (hp : H p = some (.tup (vN L))) (hl : L.length ≤ 1000) (k : ∀ b H', Same H H' → H' b = some (.tup (V.int 3 :: vN L)) → C (.ref b) H') :
    rCatA K (.ref a) (.ref p) H C := by
  refine ⟨a, p, _, _, rfl, rfl, SqT.of ha, SqT.of hp, ?_, (fun e => by cases e), (fun _ e => ?_), fun _ _ b hb => ?_⟩
  · rw [List.length_map, List.length_map]
    exact sz (by show 1 + _ ≤ _; omega)
  · exact k a _ (Same.refl _) (by rw [e]; exact ha)
  · exact k b _ (same_new hb) upd_same
theorem anyT_take {L : List Nat} {i d n : Nat} (h : (List.range' 3 n)[i]? = some d) : lotsOf (((List.range' 3 n).take (i + 1)).filter fun q => L.any fun p => decide (p % q = 0)) =
    if (L.any fun p => decide (p % d = 0)) = true then grow (lotsOf (((List.range' 3 n).take i).filter fun q => L.any fun p => decide (p % q = 0))) d else lotsOf (((List.range' 3 n).take i).filter fun q => L.any fun p => decide (p % q = 0)) := by
  rw [take_snoc h, List.filter_append]
  by_cases c : (L.any fun p => decide (p % d = 0)) = true
  · rw [if_pos c]
    have e : [d].filter (fun q => L.any fun p => decide (p % q = 0)) = [d] := by simp only [List.filter_cons, c, List.filter_nil, if_true]
    rw [e, lotsOf_snoc]
  · rw [if_neg c]
    have e : [d].filter (fun q => L.any fun p => decide (p % q = 0)) = [] := by simp only [List.filter_cons, c, List.filter_nil, if_false, Bool.false_eq_true]
    rw [e, List.append_nil]
theorem any_filter (L : List Nat) (d : Nat) : (!decide ((L.filter fun p => decide (p % d = 0)) = [])) = L.any fun p => decide (p % d = 0) := by
  rw [Bool.eq_iff_iff, Bool.not_eq_true', decide_eq_false_iff_not, List.filter_eq_nil_iff, List.any_eq_true]
  constructor
  · intro h
    exact Classical.byContradiction fun c => h fun a ha z => c ⟨a, ha, z⟩
  · rintro ⟨a, ha, z⟩ h
    exact h a ha z
section
variable {base : Heap} {P : Program} {w : World} {K : PySem.W.Frag} {mg : Str → Option Value}
/-! _law_coarser -/
def spCoL : Sp := fun vs H Q _ => ∃ (p : Addr) (L : List Nat), vs = [.ref p] ∧ H p = some (.tup (vN L)) ∧ Lot L ∧ prodN L < 90 ∧ ∀ q xs G H', Same H H' → H' q = some (.lst xs) → TsAt H' xs G → G.Perm (coarse L) → LexS G → Q (.ref q) H'
abbrev NCl : List Str := ["_law_lot", "_law_found", "_law_q", "_law_p", "_law_one"]
theorem scCoL : FnScope NCl ["_law_lot"] (defScope sCoL) := ⟨rfl, rfl, rfl, by decide +kernel, rfl, by decide +kernel, by decide +kernel⟩
abbrev scIn3 : Scope := { kind := .function, names := [(".0", .local), ("_law_one", .local), ("_law_q", .cell)], isGenerator := false, isCoroutine := false }
theorem ok_coL {f : Addr} {fd : FuncData} (F : Fun K "_law_coarser" "_law_coarser" sCoL f fd) (T : Nms mg) (C1 : Callee P w K mg base CX0 1 "_law_divisor" ["_law_one", "_law_other"] spCd) :
    FnOk P w K mg base CX0 2 f fd ["_law_lot"] spCoL := by
  obtain ⟨f1, fd1, G1, b1, m1, k1⟩ := C1.ex
  refine F.ok scCoL (fun vs H Q E h => ?_) (fun cdv A outer s H vs Q E hr h => ?_)
  · obtain ⟨p, A, rfl, _⟩ := h
    rfl
  · obtain ⟨p, L, rfl, hp, hLot, hW, k⟩ := h
    refine ⟨_, pss_cons (ps_set (i := 1) scCoL.nd rfl (.inl rfl) (pe_lst (pa_cons (pe_tup pa_nil) pa_nil)))
      (pss_cons (ps_for PassesOwn.never rfl (pi_range2 (by rfl) T.range (pa_cons pe_int (pa_cons (pe_op op_add (pe_callB (cr_maxT rfl) (by rfl) T.max bMax (pa_cons (pe_op op_catA (pe_tup (pa_cons pe_int pa_nil)) (pv 0)) pa_nil)) pe_int) pa_nil))) (pg_name (i := 2) scCoL.nd rfl (.inr rfl))
        (pss_one (ps_if (pt_cmpR (op_neD hr.units) (pe_lc (own := [("_law_p", 3)]) (g := gName 3) rfl scCoL.nd (pi_tup (pv 0)) (blkOk_by (N := NCl) (sc := defScope sCoL) (by decide +kernel))
            (fun _ _ _ _ _ => pg_name (i := 3) scCoL.nd rfl (Or.inl rfl)) (fun _ _ _ _ _ => pts_one (pt_cmpR op_eq (pe_op op_mod (pe_callTy call_int1 (by rfl) T.int bInt (pa_cons (pv 3) pa_nil)) (pv 2)) pe_int (nomark _))) (fun _ _ _ _ _ => pv 3)) (pe_lst pa_nil) (nomark _))
          (pss_one (ps_set (i := 1) scCoL.nd rfl (.inl rfl) (pe_op op_cat (pv 1) (pe_lc (own := [("_law_one", 4)]) (g := gName 4)
              (tt := tTest (tOp (rEqD K) (tLc (iTup K (tVar 4)) (gName 3) (tTest (tOp (rI0 fun i j => V.bl (decide (j < i))) (tCall spCd [] E0 (tCons (tVar 3) (tCons (tVar 2) tNil))) (tC (.int 1)))) (tVar 3) [3]) (tLst tNil)))
              (te := tOp (rCatA K) (tVar 4) (tTup (tCons (tVar 2) tNil))) rfl scCoL.nd (pi_list (pv 1)) (blkOk_by (N := NCl) (sc := defScope sCoL) (by decide +kernel))
              (fun _ _ _ _ _ => pg_name (i := 4) scCoL.nd rfl (Or.inl rfl))
              (fun _ _ _ _ _ => pts_one (pt_cmpR (op_eqD hr.units) (pe_lc (own := [("_law_p", 3)]) (g := gName 3) rfl scCoL.nd (pi_tup (pv 4)) (blkOk_by (N := NCl) (sc := scIn3) (by decide +kernel))
                (fun _ _ _ _ _ => pg_name (i := 3) scCoL.nd rfl (Or.inl rfl)) (fun _ _ _ _ _ => pts_one (pt_cmpR op_gt (pe_call G1 hr (by rfl) m1 k1 b1 .nil pass0 (pa_cons (pv 3) (pa_cons (pv 2) pa_nil))) pe_int (nomark _))) (fun _ _ _ _ _ => pv 3)) (pe_lst pa_nil) (nomark _)))
              (fun _ _ _ _ _ => pe_op op_catA (pv 4) (pe_tup (pa_cons (pv 2) pa_nil))))))) pss_nil)))
      (pss_one (ps_ret (pe_callB (cr_sortTI hr.units) (by rfl) T.sorted bSorted (pa_cons (pv 1) pa_nil))))), ?_⟩
    have hdp : 2 ^ (divsL L).length ≤ 8100 := by rw [← divs_eq hLot]; exact divs_pow hLot hW
    have hdl := pow_len hdp
    have htop := top_lt hLot hW
    refine ⟨Nat.zero_le _, fun t ht => ⟨by show 1 ≤ sizeLine; decide, fun q hq => ?_⟩⟩
    have s1 : Same H (upd (upd H t (.tup [])) q (.lst [.ref t])) := (same_new ht).trans (same_new hq)
    have hqt : q ≠ t := fun e => by
      rw [e, upd_same] at hq
      cases hq
    have z2 : upd (upd H t (.tup [])) q (.lst [.ref t]) t = some (.tup (vN [])) := by
      rw [upd_ne (Ne.symm hqt), upd_same]
      rfl
    have z3 : upd (upd H t (.tup [])) q (.lst [.ref t]) q = some (.lst [.ref t]) := upd_same
    generalize upd (upd H t (.tup [])) q (.lst [.ref t]) = H0 at s1 z2 z3 ⊢
    refine ⟨by show 1 ≤ sizeLine; decide, fun a ha => ?_⟩
    have s2 : Same H0 (upd H0 a (.tup [V.int 3])) := same_new ha
    have hlL : L.length ≤ 1000 := by
      have h3 : ∀ (M : List Nat), (∀ m ∈ M, 3 ≤ m) → M.length ≤ prodN M := by
        intro M
        induction M with
        | nil => intro _; exact Nat.zero_le _
        | cons m M ih =>
          intro hM
          have h1 := ih fun x hx => hM x (List.mem_cons_of_mem _ hx)
          have h2 := prod_pos fun x hx => hM x (List.mem_cons_of_mem _ hx)
          have h4 := hM m List.mem_cons_self
          have h5 : 3 * prodN M ≤ m * prodN M := Nat.mul_le_mul_right _ h4
          show M.length + 1 ≤ m * prodN M
          omega
      have := h3 L hLot.big
      omega
    refine ⟨_, rfl, cat_lot upd_same (s2 _ _ (s1 _ _ hp)) hlL fun b H1 s3 hb => ?_⟩
    refine ⟨b, (3 : Int) :: iN L, rfl, SqT.of hb, Nat.succ_pos _, fun m h1 h2 => ?_⟩
    rw [top_of h1 h2]
    refine ⟨_, _, rfl, rfl, 3, ((top L : Nat) : Int) + 1, rfl, ⟨by decide, by decide, by omega, by omega⟩, ?_⟩
    have en : (((top L : Nat) : Int) + 1 - 3).toNat = top L - 2 := by omega
    rw [en]
    have s4 := s2.trans s3
    have subD : ∀ i, (((List.range' 3 (top L - 2)).take i).filter fun q => L.any fun p => decide (p % q = 0)).Sublist (divsL L) := fun i => (List.take_sublist _ _).filter _
    have lenF : ∀ i, (lotsOf (((List.range' 3 (top L - 2)).take i).filter fun q => L.any fun p => decide (p % q = 0))).length ≤ 8100 := fun i =>
      Nat.le_trans (lotsOf_len _) (Nat.le_trans (Nat.pow_le_pow_right (by decide) (subD i).length_le) hdp)
    have lenA : ∀ i, ∀ A ∈ lotsOf (((List.range' 3 (top L - 2)).take i).filter fun q => L.any fun p => decide (p % q = 0)), A.length ≤ 13 := fun i A hA => by
      have h1 := ((lotsOf_mem _ _).mp hA).1.length_le
      have h2 := (subD i).length_le
      omega
    refine for_range (lo := 3) (n := top L - 2) (fun i σ H' => ∃ qF xs v, σ = [some (.ref p), some (.ref qF), v, none, none] ∧ Same H1 H' ∧ H' qF = some (.lst xs) ∧ TsAt H' xs (lotsOf (((List.range' 3 (top L - 2)).take i).filter fun q => L.any fun p => decide (p % q = 0))))
      ⟨q, [.ref t], none, rfl, Same.refl _, s4 _ _ z3, TsAt.one ⟨t, rfl, s4 _ _ z2⟩⟩ ?_ ?_
    · rintro i σ H' hi ⟨qF, xs, v, rfl, s5, hqF, hxs⟩
      have hr3 := range3_at hi
      have e3 : (3 : Int) + (i : Int) = ((3 + i : Nat) : Int) := by omega
      have h0 : 0 < 3 + i := by omega
      have hF := lenF i
      have hA := lenA i
      have hF1 := lenF (i + 1)
      rw [anyT_take hr3] at hF1
      rw [e3, anyT_take hr3]
      generalize 3 + i = d at h0 hF1 ⊢
      generalize lotsOf (((List.range' 3 (top L - 2)).take i).filter fun q => L.any fun p => decide (p % q = 0)) = Fs at hxs hF hA hF1 ⊢
      have hlx := hxs.len
      have hp5 := s5 _ _ (s4 _ _ (s1 _ _ hp))
      refine ⟨_, rfl, p, rfl, ⟨_, SqT.of hp5⟩, fun D hD => loopT (K := K) (a := p) (xs := vN L) (fun j H2 => Cw H' D (vN ((L.take j).filter fun m => decide (m % d = 0))) H2) (Cw.start hD) (fun j H2 _ cw => SqT.of (cw.same _ _ hp5)) ?_ ?_⟩
      · intro j x H2 hj cw
        obtain ⟨z, hz, rfl⟩ := map_at hj
        obtain ⟨m, hm, rfl⟩ := map_at hz
        have hjl := at_lt hm
        have hsm : (vN ((L.take j).filter fun m => decide (m % d = 0))).length < 100000 := by
          have := List.length_filter_le (fun m => decide (m % d = 0)) (L.take j)
          rw [List.length_take] at this
          rw [List.length_map, List.length_map]
          omega
        rw [take_snoc hm, List.filter_append]
        refine ⟨rfl, ?_⟩
        refine ⟨_, rfl, .inl ⟨_, rfl, ?_⟩⟩
        refine ⟨_, rfl, _, _, rfl, rfl, (by omega), rfl, _, rfl, ?_⟩
        have ed : decide (V.int ((m : Int) % (d : Int)) = V.int 0) = decide (m % d = 0) := eqN (m % d) 0
        rw [ed]
        by_cases c : m % d = 0
        · rw [decide_eq_true c]
          refine iteT ⟨_, rfl, ?_⟩
          exact cw.put (Same.refl _) hsm (by simp [c])
        · rw [decide_eq_false c]
          exact iteF (cw.skip (Same.refl _) (by simp [c]))
      · intro H2 cw
        rw [List.length_map, List.length_map, take_all] at cw
        refine ⟨Nat.zero_le _, fun l hl2 => ?_⟩
        have s6 : Same H2 (upd H2 l (.lst [])) := same_new hl2
        refine ⟨_, _, dp_listI (s6 _ _ cw.here), dp_listI (ns := []) upd_same, shp_ints _, shp_ints _, _, rfl, ?_⟩
        rw [eqv_list_ints]
        have e : (!decide (iN (L.filter fun m => decide (m % d = 0)) = [])) = L.any fun p => decide (p % d = 0) := by
          rw [← any_filter]
          refine congrArg Bool.not (Bool.eq_iff_iff.mpr ?_)
          rw [decide_eq_true_eq, decide_eq_true_eq]
          exact List.map_eq_nil_iff
        rw [e]
        have s7 := cw.same.trans s6
        generalize upd H2 l (.lst []) = H3 at s7 ⊢
        have hqF3 := s7 _ _ hqF
        have hxs3 := hxs.mono s7
        cases hc : L.any fun p => decide (p % d = 0) with
        | false =>
          exact iteF ⟨qF, xs, some (.int (d : Int)), rfl, s5.trans s7, hqF3, hxs3⟩
        | true =>
          rw [hc, if_pos rfl] at hF1
          rw [if_pos rfl]
          refine iteT ⟨_, rfl, _, rfl, qF, rfl, ⟨_, SqL.of hqF3⟩, fun D2 hD2 => loopL (K := K) (a := qF) (xs := xs) (fun j H4 => ∃ out, Cw H3 D2 out H4 ∧ TsAt H4 out (((Fs.take j).filter fun A => goes A d).map (· ++ [d]))) ⟨[], Cw.start hD2, .nil⟩ (fun j H4 _ ⟨_, c4, _⟩ => SqL.of (c4.same _ _ hqF3)) ?_ ?_⟩
          · rintro j x H4 hj ⟨out, c4, ho⟩
            obtain ⟨Aj, hAj, hT⟩ := hxs3.get hj
            have hAl := hA _ (at_mem hAj)
            have hjl := at_lt hAj
            rw [take_snoc hAj, List.filter_append, List.map_append]
            have hsm : out.length < 100000 := by
              rw [ho.len, List.length_map]
              have := List.length_filter_le (fun A => goes A d) (Fs.take j)
              rw [List.length_take] at this
              omega
            refine ⟨rfl, ?_⟩
            obtain ⟨tA, rfl, htA⟩ := hT.mono c4.same
            refine ⟨_, rfl, tA, rfl, ⟨_, SqT.of htA⟩, fun D3 hD3 => loopT (K := K) (a := tA) (xs := vN Aj) (fun n H5 => Cw H4 D3 (vN ((Aj.take n).filter fun (o : Nat) => decide (1 < Nat.gcd o d))) H5) (Cw.start hD3) (fun n H5 _ c5 => SqT.of (c5.same _ _ htA)) ?_ ?_⟩
            · intro n y H5 hn c5
              obtain ⟨z, hz, rfl⟩ := map_at hn
              obtain ⟨o, hoA, rfl⟩ := map_at hz
              have hln := at_lt hoA
              have hsm : (vN ((Aj.take n).filter fun (o : Nat) => decide (1 < Nat.gcd o d))).length < 100000 := by
                have := List.length_filter_le (fun (o : Nat) => decide (1 < Nat.gcd o d)) (Aj.take n)
                rw [List.length_take] at this
                rw [List.length_map, List.length_map]
                omega
              rw [take_snoc hoA, List.filter_append]
              refine ⟨rfl, ?_⟩
              refine ⟨_, rfl, _, rfl, o, d, rfl, _, _, rfl, rfl, _, rfl, ?_⟩
              by_cases c : 1 < Nat.gcd o d
              · rw [decide_eq_true (show (1 : Int) < ((Nat.gcd o d : Nat) : Int) by omega)]
                refine iteT ⟨_, rfl, ?_⟩
                exact c5.put (Same.refl _) hsm (by simp [c])
              · rw [decide_eq_false (show ¬ (1 : Int) < ((Nat.gcd o d : Nat) : Int) by omega)]
                exact iteF (c5.skip (Same.refl _) (by simp [c]))
            · intro H5 c5
              rw [List.length_map, List.length_map, take_all] at c5
              refine ⟨Nat.zero_le _, fun l2 hl3 => ?_⟩
              have s8 : Same H5 (upd H5 l2 (.lst [])) := same_new hl3
              refine ⟨_, _, dp_listI (s8 _ _ c5.here), dp_listI (ns := []) upd_same, shp_ints _, shp_ints _, _, rfl, ?_⟩
              rw [eqv_list_ints]
              have e : decide (iN (Aj.filter fun (o : Nat) => decide (1 < Nat.gcd o d)) = []) = goes Aj d := by
                rw [← goes_filter h0]
                refine Bool.eq_iff_iff.mpr ?_
                rw [decide_eq_true_eq, decide_eq_true_eq]
                exact List.map_eq_nil_iff
              rw [e]
              have s9 := c5.same.trans s8
              generalize upd H5 l2 (.lst []) = H6 at s9 ⊢
              cases hg : goes Aj d with
              | false =>
                refine iteF ?_
                have hfil : [Aj].filter (fun A => goes A d) = [] := by simp [hg]
                rw [hfil, List.map_nil, List.append_nil]
                exact ⟨out, c4.skip s9 rfl, ho.mono s9⟩
              | true =>
                have hfil : [Aj].filter (fun A => goes A d) = [Aj] := by simp [hg]
                rw [hfil]
                refine iteT ⟨_, rfl, _, rfl, by show 1 ≤ sizeLine; decide, fun u hu => ?_⟩
                have s10 : Same H6 (upd H6 u (.tup [V.int (d : Int)])) := same_new hu
                have fin : ∀ (r : Addr) (H7 : Hp), Same (upd H6 u (.tup [V.int (d : Int)])) H7 → H7 r = some (.tup (vN (Aj ++ [d]))) → ∃ acc, H7 D2 = some (.lst acc) ∧ acc.length < sizeLine ∧ ∃ out', Cw H3 D2 out' (upd H7 D2 (.lst (acc ++ [V.ref r]))) ∧ TsAt (upd H7 D2 (.lst (acc ++ [V.ref r]))) out' (((Fs.take j).filter fun A => goes A d).map (· ++ [d]) ++ [Aj].map (· ++ [d])) := fun r H7 s11 hr7 => by
                  have s12 := (s9.trans s10).trans s11
                  obtain ⟨acc, ha, hz, c6⟩ := c4.put (y := .ref r) (out' := out ++ [.ref r]) s12 hsm rfl
                  exact ⟨acc, ha, hz, _, c6, TsAt.app ((ho.mono s12).put ha) (TsAt.one (TupN.put ⟨r, rfl, hr7⟩ ha))⟩
                refine ⟨tA, u, _, _, rfl, rfl, SqT.of (s10 _ _ (s9 _ _ (c5.same _ _ htA |> fun _ => htA))), SqT.of upd_same, ?_, (fun e => ?_), (fun _ e => by cases e), fun _ _ r hr8 => ?_⟩
                · rw [List.length_map, List.length_map]
                  exact sz (by show _ + 1 ≤ _; omega)
                · have eA : Aj = [] := iN_inj (m := []) (List.map_eq_nil_iff.mp e)
                  subst eA
                  exact fin u _ (Same.refl _) upd_same
                · refine fin r _ (same_new hr8) ?_
                  rw [upd_same]
                  unfold vN vI iN
                  rw [List.map_append, List.map_append]
                  rfl
          · rintro H4 ⟨out, c4, ho⟩
            rw [hlx, take_all] at ho
            refine ⟨qF, D2, xs, out, rfl, rfl, c4.same _ _ hqF3, c4.here, ?_, fun r hr2 => ?_⟩
            · rw [hlx, ho.len, List.length_map]
              have := List.length_filter_le (fun A => goes A d) Fs
              exact sz (by omega)
            · have s8 : Same H4 (upd H4 r (.lst (xs ++ out))) := same_new hr2
              have s9 : Same H3 (upd H4 r (.lst (xs ++ out))) := c4.same.trans s8
              exact ⟨r, xs ++ out, some (.int (d : Int)), rfl, (s5.trans s7).trans s9, upd_same, TsAt.app (hxs3.mono s9) (ho.mono s8)⟩
    · rintro σ H' ⟨qF, xs, v, rfl, s5, hqF, hxs⟩
      have ef : (List.range' 3 (top L - 2)).take (top L - 2) = List.range' 3 (top L - 2) := List.take_of_length_le (by simp)
      rw [ef] at hxs
      have hxs : TsAt H' xs (lotsOf (divsL L)) := hxs
      refine ⟨_, rfl, qF, xs, keyOf H', rfl, SqL.of hqF, sort_args hxs, sort_heads hxs (.inr (lotsOf_head _)), fun ys p2 hperm hpw hp2 => ?_⟩
      obtain ⟨G, hG, hGp, hGs⟩ := sorted_lots hxs hperm hpw
      have s6 : Same H' (upd H' p2 (.lst ys)) := same_new hp2
      rw [← divs_eq hLot] at hGp
      exact k p2 ys G _ (((s1.trans s4).trans s5).trans s6) upd_same (hG.mono s6) hGp hGs
end
end K45
namespace K45
open PySem L2 M45
section
variable {base : Heap} {P : Program} {w : World} {K : PySem.W.Frag} {mg : Str → Option Value}
/-! _law_asked -/
def spAsk : Sp := fun vs H Q _ => ∃ x y, vs = [x, y] ∧
  ((∃ ns ms L due, IntsAt H x ns ∧ IntsAt H y ms ∧ ns.length ≤ 12 ∧ ms.length ≤ 1000 ∧ lotOf ns = some L ∧ prodN L < 90 ∧ due.Perm (left L ms) ∧ LexS due ∧ (due = [] → Ask H Q "refused" (.int 1)) ∧ (due ≠ [] → Ask H Q "told" (bestV due (prodN L)))) ∨
   (Bad H x ∧ Ask H Q "question" (.int 0)) ∨ (Bad H y ∧ Ask H Q "question" (.int 1) ∧ ∃ ns, IntsAt H x ns ∧ ns.length ≤ 1000) ∨
   (∃ ns ms, IntsAt H x ns ∧ IntsAt H y ms ∧ ns.length ≤ 12 ∧ ms.length ≤ 1000 ∧ lotOf ns = none ∧ Ask H Q "refused" (.int 0)))
abbrev NAs : List Str := ["_law_yes", "_law_no", "e", "how"]
theorem scAsk : FnScope NAs ["_law_yes", "_law_no"] (defScope sAsk) := ⟨rfl, rfl, rfl, by decide +kernel, rfl, by decide +kernel, by decide +kernel⟩
theorem ok_ask {f CQ CR fI gI : Addr} {fd : FuncData} (F : Fun K "_law_asked" "_law_asked" sAsk f fd) (T : Nms mg) (TQ : PySem.ErrX.ErrTxt P K mg "InvalidQuestion" CQ fI) (TR : PySem.ErrX.ErrTxt P K mg "Refused" CR gI)
    (eQQ : PySem.W.exmOne K (.ref CQ) (.ref CQ) = some true) (eRQ : PySem.W.exmOne K (.ref CR) (.ref CQ) = some false) (eRR : PySem.W.exmOne K (.ref CR) (.ref CR) = some true)
    (C1 : CalleeKw P w K mg base (L2.CX P w) 6 "next_question" ["yes", "no"] (spNext CQ CR)) :
    FnOk P w K mg base CX0 7 f fd ["_law_yes", "_law_no"] spAsk := by
  obtain ⟨f1, fd1, G1, b1, m1, k1⟩ := C1.ex
  refine F.ok scAsk (fun vs H Q E h => ?_) (fun cdv A outer s H vs Q E hr h => ?_)
  · obtain ⟨x, y, rfl, _⟩ := h
    rfl
  · obtain ⟨x, y, rfl, h⟩ := h
    refine ⟨_, pss_one (ps_try_named (Wo := fun _ _ _ _ => False) (l := [(.ref CQ, 2, fun a cls d => tRet (tTup (tCons (tC (.str "question")) (tCons (tAtErr CQ a cls d (tVar 2)) tNil)))), (.ref CR, 3, fun a cls d => tRet (tTup (tCons (tC (.str "refused")) (tCons (tAtErr CR a cls d (tVar 3)) tNil))))])
        (tb := fun W => tRet (tTup (tCons (tC (.str "told")) (tCons (tKwS (spNext CQ CR) (WE W) 2 (tCons (tVar 0) (tCons (tVar 1) tNil))) tNil))))
        rfl rfl scAsk.nd (fun u s' ⟨_, _, _, _, _, _, _, _, _, _, _, _, _, _, _, _, z⟩ => z.elim)
        (fun W pn xe tk _ => pss_one (ps_ret (pe_tup (pa_cons pe_str (pa_cons (pe_kwS G1 hr (by rfl) m1 k1 b1 (fun σ => passAt tk σ) (pk_cons (pv 0) (pk_cons (pv 1) pk_nil))) pa_nil)))))
        (.cons ⟨by rfl, by decide, .inl TQ.gC⟩ rfl rfl (fun a oe cls d pn hz hf => pss_one (ps_ret (pe_tup (pa_cons pe_str (pa_cons (pe_atErr TQ hz hf (pv 2)) pa_nil)))))
        (.cons ⟨by rfl, by decide, .inl TR.gC⟩ rfl rfl (fun a oe cls d pn hz hf => pss_one (ps_ret (pe_tup (pa_cons pe_str (pa_cons (pe_atErr TR hz hf (pv 3)) pa_nil))))) .nil))), ?_⟩
    have two : ∀ {tag : Str} {v : V} {H1 : Hp}, Same H H1 → Ask H Q tag v → (fun xs H1 => xs.length ≤ sizeLine ∧ ∀ p, H1 p = none → Q (.ref p) (upd H1 p (.tup xs))) [V.str tag, v] H1 := fun s1 ak => ⟨by show 2 ≤ sizeLine; decide, fun t ht => ak t _ (s1.trans (same_new ht)) upd_same⟩
    refine ⟨_, rfl, _, rfl, rfl, x, y, rfl, ?_⟩
    rcases h with ⟨ns, ms, L, due, hx, hy, l1, l2, hlo, hW, hdp, hds, kn, k⟩ | ⟨hx, k⟩ | ⟨hy, k, hx⟩ | ⟨ns, ms, hx, hy, l1, l2, hlo, k⟩
    · refine .inl ⟨ns, ms, L, due, hx, hy, l1, l2, hlo, hW, hdp, hds, fun e0 d H1 s1 hd => ?_, fun e0 H1 s1 => two s1 (k e0)⟩
      exact ⟨false, eRQ, (fun z => by cases z), fun _ => ⟨true, eRR, (fun _ a ha => ⟨_, rfl, rfl, rfl, d, _, rfl, hd, two s1 (kn e0)⟩), fun z => by cases z⟩⟩
    · refine .inr (.inl ⟨hx, fun d H1 s1 hd => ?_⟩)
      exact ⟨true, eQQ, (fun _ a ha => ⟨_, rfl, rfl, rfl, d, _, rfl, hd, two s1 k⟩), fun z => by cases z⟩
    · refine .inr (.inr (.inl ⟨hy, fun d H1 s1 hd => ?_, hx⟩))
      exact ⟨true, eQQ, (fun _ a ha => ⟨_, rfl, rfl, rfl, d, _, rfl, hd, two s1 k⟩), fun z => by cases z⟩
    · refine .inr (.inr (.inr ⟨ns, ms, hx, hy, l1, l2, hlo, fun d H1 s1 hd => ?_⟩))
      exact ⟨false, eRQ, (fun z => by cases z), fun _ => ⟨true, eRR, (fun _ a ha => ⟨_, rfl, rfl, rfl, d, _, rfl, hd, two s1 k⟩), fun z => by cases z⟩⟩
end
end K45
namespace K45
open PySem L2 M45
abbrev sAny : Stmt := topS 27
abbrev sOf : Stmt := topS 28
abbrev sMix : Stmt := topS 29
theorem seq_at {j n : Nat} (h : j < n) : seqIndex? (j : Int) n = some j := by
  have e1 : ¬ ((j : Int) < 0) := by omega
  have e2 : ((j : Int) < (n : Int)) := by omega
  have e3 : (0 : Int) ≤ (j : Int) := by omega
  unfold seqIndex?
  simp only [if_neg e1, decide_eq_true e2, decide_eq_true e3, Bool.and_self, if_true, Int.toNat_natCast]
theorem map_erase {α β : Type} (g : α → β) : ∀ (l : List α) (j : Nat), (l.map g).eraseIdx j = (l.eraseIdx j).map g
  | [], _ => rfl
  | _ :: _, 0 => rfl
  | a :: l, j + 1 => congrArg (g a :: ·) (map_erase g l j)
theorem erase_perm {α : Type} : ∀ {l : List α} {j : Nat} (h : j < l.length), ([l[j]] ++ l.eraseIdx j).Perm l
  | [], _, lt => absurd lt (Nat.not_lt_zero _)
  | _ :: _, 0, _ => List.Perm.refl _
  | a :: l, j + 1, h => (List.Perm.swap a _ _).trans (List.Perm.cons a (erase_perm (l := l) (j := j) (Nat.lt_of_succ_lt_succ h)))
/-! the deal: a list that holds a list of numbers and a number -/
structure DealAt (H : Hp) (p l : Addr) (cs : List Nat) (b : Nat) : Prop where
  top : H p = some (.lst [.ref l, .int (b : Int)])
  low : H l = some (.lst (vN cs))
  small : b < 2147483648
  len : cs.length ≤ 48
def Deal (H : Hp) (p l : Addr) : Prop := ∃ cs b, DealAt H p l cs b
theorem DealAt.ne {H : Hp} {p l : Addr} {cs : List Nat} {b : Nat} (d : DealAt H p l cs b) : p ≠ l := fun e => by
  have h1 := d.top
  rw [e, d.low] at h1
  have h2 := HO.lst.inj (Option.some.inj h1)
  cases cs with
  | nil => cases h2
  | cons c cs => exact absurd (List.cons.inj h2).1 (fun z => by cases z)
theorem DealAt.mono {H H' : Hp} {p l : Addr} {cs : List Nat} {b : Nat} (d : DealAt H p l cs b) (s : Same H H') : DealAt H' p l cs b := ⟨s _ _ d.top, s _ _ d.low, d.small, d.len⟩
theorem DealAt.relow {H : Hp} {p l : Addr} {cs ds : List Nat} {b : Nat} {ys : List V} (d : DealAt H p l cs b) (e : ys = vN ds) (hl : ds.length ≤ 48) : DealAt (upd H l (.lst ys)) p l ds b := by
  subst e
  exact ⟨(upd_ne d.ne).trans d.top, upd_same, d.small, hl⟩
theorem DealAt.retop {H : Hp} {p l : Addr} {cs : List Nat} {b c : Nat} {ys : List V} (d : DealAt H p l cs b) (e : ys = [.ref l, .int (c : Int)]) (hc : c < 2147483648) : DealAt (upd H p (.lst ys)) p l cs c := by
  subst e
  exact ⟨upd_same, (upd_ne (Ne.symm d.ne)).trans d.low, hc, d.len⟩
theorem DealAt.deal {H : Hp} {p l : Addr} {cs : List Nat} {b : Nat} (d : DealAt H p l cs b) : Deal H p l := ⟨cs, b, d⟩
theorem Deal.mono {H H' : Hp} {p l : Addr} (d : Deal H p l) (s : Same H H') : Deal H' p l := let ⟨_, _, z⟩ := d; (z.mono s).deal
/-- all but the deal stays -/
def SameX (p l : Addr) (H H' : Hp) : Prop := ∀ a u, a ≠ p → a ≠ l → H a = some u → H' a = some u
theorem SameX.of {p l : Addr} {H H' : Hp} (s : Same H H') : SameX p l H H' := fun a u _ _ e => s a u e
theorem SameX.trans {p l : Addr} {H H1 H2 : Hp} (s : SameX p l H H1) (t : SameX p l H1 H2) : SameX p l H H2 := fun a u h1 h2 e => t a u h1 h2 (s a u h1 h2 e)
theorem SameX.low {p l : Addr} {H H' : Hp} {o : HO} (s : SameX p l H H') : SameX p l H (upd H' l o) := fun a u h1 h2 e => (upd_ne h2).trans (s a u h1 h2 e)
theorem SameX.top {p l : Addr} {H H' : Hp} {o : HO} (s : SameX p l H H') : SameX p l H (upd H' p o) := fun a u h1 h2 e => (upd_ne h1).trans (s a u h1 h2 e)
theorem SameX.mut {p l q : Addr} {H H' : Hp} {o : HO} (s : SameX p l H H') (h : H q = none) : SameX p l H (upd H' q o) := fun a u h1 h2 e => by
  rw [upd_ne fun z => by subst z; rw [h] at e; cases e]
  exact s a u h1 h2 e
theorem Deal.off {H : Hp} {p l q : Addr} (d : Deal H p l) (h : H q = none) : q ≠ p ∧ q ≠ l := by
  obtain ⟨cs, b, d⟩ := d
  exact ⟨fun e => by (have := d.top; rw [← e, h] at this; cases this), fun e => by (have := d.low; rw [← e, h] at this; cases this)⟩
section
variable {base : Heap} {P : Program} {w : World} {K : PySem.W.Frag} {mg : Str → Option Value}
/-! _law_any -/
def spAny : Sp := fun vs H Q _ => ∃ (p l : Addr) (B : Nat), vs = [.ref p, .int (B : Int)] ∧ Deal H p l ∧ 0 < B ∧ B < 100000 ∧ ∀ (r : Nat) H', SameX p l H H' → Deal H' p l → r < B → Q (.int (r : Int)) H'
abbrev NAn : List Str := ["_law_deal", "_law_bound", "_law_rest"]
theorem scAny : FnScope NAn ["_law_deal", "_law_bound"] (defScope sAny) := ⟨rfl, rfl, rfl, by decide +kernel, rfl, by decide +kernel, by decide +kernel⟩
theorem ok_any {f : Addr} {fd : FuncData} (F : Fun K "_law_any" "_law_any" sAny f fd) (T : Nms mg) : FnOk P w K mg base CX0 1 f fd ["_law_deal", "_law_bound"] spAny := by
  refine F.ok scAny (fun vs H Q E h => ?_) (fun cdv A outer s H vs Q E hr h => ?_)
  · obtain ⟨_, _, _, rfl, _⟩ := h
    rfl
  · obtain ⟨p, l, B, rfl, ⟨cs0, b0, d0⟩, hB, hB2, k⟩ := h
    refine ⟨_, pss_cons (ps_while PassesOwn.never (PW.pt (pw_and (pt_cmpR (op_neD hr.units) (pe_ix ix_list (pv 0) pe_int (fun _ _ => rfl)) (pe_lst pa_nil) (nomark _))
          (pw_and1 (pt_cmpR op_eq (pe_ix ix_list (pe_ix ix_list (pv 0) pe_int (fun _ _ => rfl)) (pe_un un_neg pe_int) (fun _ _ => rfl)) pe_int (nomark _)))))
        (pss_one (ps_expr (pe_bm0 PySem.F.plainAttrs_list PySem.F.slot_list_pop PySem.F.type_list_pop mt_pop (pe_ix ix_list (pv 0) pe_int (fun _ _ => rfl))))))
      (pss_cons (ps_if (pt_cmpR (op_neD hr.units) (pe_ix ix_list (pv 0) pe_int (fun _ _ => rfl)) (pe_lst pa_nil) (nomark _))
        (pss_cons (ps_set (i := 2) scAny.nd rfl (.inl rfl) (pe_callTy call_int1 (by rfl) T.int bInt (pa_cons (pe_bm0 PySem.F.plainAttrs_list PySem.F.slot_list_pop PySem.F.type_list_pop mt_pop (pe_ix ix_list (pv 0) pe_int (fun _ _ => rfl))) pa_nil)))
        (pss_cons (ps_expr (pe_bm PySem.F.plainAttrs_list PySem.F.slot_list_append PySem.F.type_list_append mt_append (pe_ix ix_list (pv 0) pe_int (fun _ _ => rfl)) (pa_cons (pe_op op_fdiv (pv 2) (pv 1)) pa_nil)))
        (pss_one (ps_ret (pe_op op_mod (pv 2) (pv 1)))))) pss_nil)
      (pss_cons (ps_asg (pe_op op_mod (pe_callTy call_int1 (by rfl) T.int bInt (pa_cons (pe_op op_add (pe_op op_mul (pe_ix ix_list (pv 0) pe_int (fun _ _ => rfl)) pe_int) pe_int) pa_nil)) pe_int) (pg_sub (pv 0) pe_int set_list))
      (pss_one (ps_ret (pe_op op_mod (pe_callTy call_int1 (by rfl) T.int bInt (pa_cons (pe_op op_fdiv (pe_ix ix_list (pv 0) pe_int (fun _ _ => rfl)) pe_int) pa_nil)) (pv 1)))))), ?_⟩
    have ne0 : ∀ cs : List Nat, (!decide (iN cs = [])) = !decide (cs = []) := fun cs => by
      refine congrArg Bool.not (Bool.eq_iff_iff.mpr ?_)
      rw [decide_eq_true_eq, decide_eq_true_eq]
      exact List.map_eq_nil_iff
    refine ⟨fun m σ H' => ∃ cs b, σ = [some (.ref p), some (.int (B : Int)), none] ∧ SameX p l H H' ∧ DealAt H' p l cs b ∧ m = cs.length, ⟨_, cs0, b0, rfl, SameX.of (Same.refl _), d0, rfl⟩, ?_⟩
    rintro m σ H' ⟨cs, b, rfl, s1, d, rfl⟩
    refine ⟨_, rfl, p, _, 0, .ref l, rfl, rfl, SqL.of d.top, rfl, Nat.zero_le _, fun e he => ?_⟩
    have s2 : Same H' (upd H' e (.lst [])) := same_new he
    refine ⟨_, _, dp_listI (s2 _ _ d.low), dp_listI (ns := []) upd_same, shp_ints _, shp_ints _, _, rfl, ?_⟩
    rw [eqv_list_ints, ne0]
    have d2 := d.mono s2
    have s12 := s1.trans (SameX.of (p := p) (l := l) s2)
    generalize upd H' e (.lst []) = H2 at s12 d2 ⊢
    rcases List.eq_nil_or_concat cs with e0 | ⟨ds, c, e0⟩
    · subst e0
      refine iteF (iteF ?_)
      refine ⟨_, rfl, p, _, 0, .ref l, rfl, rfl, SqL.of d2.top, rfl, Nat.zero_le _, fun e he => ?_⟩
      have s3 : Same H2 (upd H2 e (.lst [])) := same_new he
      refine ⟨_, _, dp_listI (s3 _ _ d2.low), dp_listI (ns := []) upd_same, shp_ints _, shp_ints _, _, rfl, ?_⟩
      rw [eqv_list_ints, ne0]
      have d3 := d2.mono s3
      have s13 := s12.trans (SameX.of (p := p) (l := l) s3)
      generalize upd H2 e (.lst []) = H3 at s13 d3 ⊢
      refine iteF ?_
      have hsm := d3.small
      refine ⟨_, rfl, p, _, 1, .int (b : Int), rfl, rfl, SqL.of d3.top, rfl, _, _, rfl, rfl, .inr ⟨by decide, by decide⟩, _, _, rfl, rfl, .inl ⟨_, rfl, ?_⟩⟩
      refine ⟨_, _, rfl, rfl, (show (0 : Int) < 2147483647 by decide), ?_⟩
      refine ⟨_, rfl, p, _, 1, 1, rfl, rfl, d3.top, rfl, ?_⟩
      have d4 := d3.retop (c := (b * 40693 + 71) % 2147483647) (ys := [V.ref l, V.int (b : Int)].set 1 (.int (((b : Int) * 40693 + 71) % 2147483647))) rfl (by have := Nat.mod_lt (b * 40693 + 71) (show 0 < 2147483647 by decide); omega)
      have s14 := s13.top (o := .lst ([V.ref l, V.int (b : Int)].set 1 (.int (((b : Int) * 40693 + 71) % 2147483647))))
      generalize upd H3 p (.lst ([V.ref l, V.int (b : Int)].set 1 (.int (((b : Int) * 40693 + 71) % 2147483647)))) = H4 at s14 d4 ⊢
      generalize (b * 40693 + 71) % 2147483647 = b2 at d4
      refine ⟨_, rfl, p, _, 1, .int (b2 : Int), rfl, rfl, SqL.of d4.top, rfl, _, _, rfl, rfl, ⟨by decide, by decide⟩, .inl ⟨_, rfl, ?_⟩⟩
      refine ⟨_, rfl, _, _, rfl, rfl, (show (0 : Int) < (B : Int) by omega), ?_⟩
      exact k (b2 / 64 % B) H4 s14 d4.deal (Nat.mod_lt _ hB)
    · rw [List.concat_eq_append] at e0
      subst e0
      have en : (!decide (ds ++ [c] = [])) = true := by simp
      have ev : vN (ds ++ [c]) = vN ds ++ [V.int (c : Int)] := by
        unfold vN vI iN
        rw [List.map_append, List.map_append]
        rfl
      have hlen := d2.len
      rw [List.length_append, List.length_singleton] at hlen
      rw [en]
      have lw := d2.low
      rw [ev] at lw
      refine iteT ?_
      refine ⟨_, rfl, p, _, 0, .ref l, rfl, rfl, SqL.of d2.top, rfl, 1, rfl, ?_⟩
      refine ⟨l, _, -1, .int (c : Int), rfl, rfl, SqL.of lw, atI_last _ _, rfl, _, rfl, ?_⟩
      have lst : (vN ds ++ [V.int (c : Int)])[(vN ds ++ [V.int (c : Int)]).length - 1]? = some (.int (c : Int)) := by simp
      have dl : (vN ds ++ [V.int (c : Int)]).dropLast = vN ds := List.dropLast_concat
      by_cases c0 : c = 0
      · have ec : decide (V.int (c : Int) = V.int 0) = true := by simp [c0]
        rw [ec]
        refine iteT ⟨fun σ' H'' => ∃ m', m' < (ds ++ [c]).length ∧ ∃ cs b, σ' = [some (.ref p), some (.int (B : Int)), none] ∧ SameX p l H H'' ∧ DealAt H'' p l cs b ∧ m' = cs.length, fun _ _ z => z, ?_⟩
        refine ⟨_, rfl, p, _, 0, .ref l, rfl, rfl, SqL.of d2.top, rfl, .inl ⟨rfl, _, SqL.of lw⟩, l, _, _, rfl, rfl, lw, lst, ?_⟩
        exact ⟨ds.length, by rw [List.length_append]; show _ < _ + 1; omega, ds, b, rfl, s12.low, d2.relow dl (by omega), rfl⟩
      · have ec : decide (V.int (c : Int) = V.int 0) = false := by simp [c0]
        rw [ec]
        refine iteF ?_
        refine ⟨_, rfl, p, _, 0, .ref l, rfl, rfl, SqL.of d2.top, rfl, Nat.zero_le _, fun e he => ?_⟩
        have s3 : Same H2 (upd H2 e (.lst [])) := same_new he
        refine ⟨_, _, dp_listI (s3 _ _ d2.low), dp_listI (ns := []) upd_same, shp_ints _, shp_ints _, _, rfl, ?_⟩
        rw [eqv_list_ints, ne0, en]
        have d3 := d2.mono s3
        have s13 := s12.trans (SameX.of (p := p) (l := l) s3)
        generalize upd H2 e (.lst []) = H3 at s13 d3 ⊢
        have lw3 := d3.low
        rw [ev] at lw3
        refine iteT ?_
        refine ⟨_, rfl, p, _, 0, .ref l, rfl, rfl, SqL.of d3.top, rfl, .inl ⟨rfl, _, SqL.of lw3⟩, l, _, _, rfl, rfl, lw3, lst, .inl ⟨_, rfl, ?_⟩⟩
        have d4 := d3.relow dl (by omega)
        have s14 := s13.low (o := .lst (vN ds ++ [V.int (c : Int)]).dropLast)
        generalize upd H3 l (.lst (vN ds ++ [V.int (c : Int)]).dropLast) = H4 at s14 d4 ⊢
        refine ⟨_, rfl, p, _, 0, .ref l, rfl, rfl, SqL.of d4.top, rfl, .inl ⟨rfl, _, SqL.of d4.low⟩, _, rfl, _, rfl, _, _, rfl, rfl, ⟨by omega, by omega⟩, l, _, _, rfl, rfl, d4.low, ?_, ?_⟩
        · rw [List.length_map, List.length_map]
          exact szl (by omega)
        · have d5 := d4.relow (ds := ds ++ [c / B]) (ys := vN ds ++ [V.int ((c : Int) / (B : Int))]) (by
            unfold vN vI iN
            rw [List.map_append, List.map_append]
            rfl) (by rw [List.length_append]; exact hlen)
          refine ⟨_, rfl, _, rfl, _, _, rfl, rfl, (by omega), ?_⟩
          exact k (c % B) _ s14.low d5.deal (Nat.mod_lt _ hB)
/-! _law_of -/
def spOf : Sp := fun vs H Q _ => ∃ (p l q : Addr) (xs : List V), vs = [.ref p, .ref q] ∧ Deal H p l ∧ H q = some (.lst xs) ∧ q ≠ p ∧ q ≠ l ∧ 0 < xs.length ∧ xs.length ≤ 1000 ∧ ∀ x H', x ∈ xs → SameX p l H H' → Deal H' p l → Q x H'
abbrev NOf : List Str := ["_law_deal", "_law_some"]
theorem scOf : FnScope NOf ["_law_deal", "_law_some"] (defScope sOf) := ⟨rfl, rfl, rfl, by decide +kernel, rfl, by decide +kernel, by decide +kernel⟩
theorem ok_of {f : Addr} {fd : FuncData} (F : Fun K "_law_of" "_law_of" sOf f fd) (T : Nms mg) (C1 : Callee P w K mg base CX0 1 "_law_any" ["_law_deal", "_law_bound"] spAny) : FnOk P w K mg base CX0 2 f fd ["_law_deal", "_law_some"] spOf := by
  obtain ⟨f1, fd1, G1, b1, m1, k1⟩ := C1.ex
  refine F.ok scOf (fun vs H Q E h => ?_) (fun cdv A outer s H vs Q E hr h => ?_)
  · obtain ⟨_, _, _, _, rfl, _⟩ := h
    rfl
  · obtain ⟨p, l, q, xs, rfl, d, hq, n1, n2, h0, hl, k⟩ := h
    refine ⟨_, pss_one (ps_ret (pe_ix ix_list (pv 1) (pe_call G1 hr (by rfl) m1 k1 b1 .nil pass0 (pa_cons (pv 0) (pa_cons (pe_callB call_len_seq (by rfl) T.len bLen (pa_cons (pv 1) pa_nil)) pa_nil))) (fun _ _ => rfl))), ?_⟩
    refine ⟨_, rfl, _, rfl, _, rfl, q, xs, rfl, .inl (SqL.of hq), p, l, xs.length, rfl, d, h0, by omega, fun r H1 s1 d1 hr1 => ?_⟩
    have e : xs[r]? = some xs[r] := by simp [hr1]
    exact ⟨q, xs, (r : Int), xs[r], rfl, rfl, SqL.of (s1 _ _ n1 n2 hq), atI_nat e, k _ _ (List.getElem_mem hr1) s1 d1⟩
/-! _law_mixed -/
def spMix : Sp := fun vs H Q _ => ∃ (p l q : Addr) (ns : List Int), vs = [.ref p, .ref q] ∧ Deal H p l ∧ H q = some (.lst (vI ns)) ∧ ns.length ≤ 100 ∧ ∀ (r : Addr) (ms : List Int) H', SameX p l H H' → Deal H' p l → H r = none → H' r = some (.lst (vI ms)) → ms.Perm ns → Q (.ref r) H'
abbrev NMi : List Str := ["_law_deal", "_law_some", "_law_left", "_law_found"]
theorem scMix : FnScope NMi ["_law_deal", "_law_some"] (defScope sMix) := ⟨rfl, rfl, rfl, by decide +kernel, rfl, by decide +kernel, by decide +kernel⟩
theorem ok_mix {f : Addr} {fd : FuncData} (F : Fun K "_law_mixed" "_law_mixed" sMix f fd) (T : Nms mg) (C1 : Callee P w K mg base CX0 1 "_law_any" ["_law_deal", "_law_bound"] spAny) : FnOk P w K mg base CX0 2 f fd ["_law_deal", "_law_some"] spMix := by
  obtain ⟨f1, fd1, G1, b1, m1, k1⟩ := C1.ex
  refine F.ok scMix (fun vs H Q E h => ?_) (fun cdv A outer s H vs Q E hr h => ?_)
  · obtain ⟨_, _, _, _, rfl, _⟩ := h
    rfl
  · obtain ⟨p, l, q, ns, rfl, d, hq, hl, k⟩ := h
    refine ⟨_, pss_cons (ps_par (i := 2) (j := 3) rfl scMix.nd rfl rfl (by decide) rfl rfl (pa_cons (pe_callTy call_list_of (by rfl) T.list bList (pa_cons (pv 1) pa_nil)) (pa_cons (pe_lst pa_nil) pa_nil)) (by rfl))
      (pss_cons (ps_while PassesOwn.never (pt_cmpR (op_neD hr.units) (pv 2) (pe_lst pa_nil) (nomark _))
        (pss_one (ps_expr (pe_bm PySem.F.plainAttrs_list PySem.F.slot_list_append PySem.F.type_list_append mt_append (pv 3) (pa_cons
          (pe_bm PySem.F.plainAttrs_list PySem.F.slot_list_pop PySem.F.type_list_pop mt_popAt (pv 2) (pa_cons (pe_call G1 hr (by rfl) m1 k1 b1 .nil pass0 (pa_cons (pv 0) (pa_cons (pe_callB call_len_seq (by rfl) T.len bLen (pa_cons (pv 2) pa_nil)) pa_nil))) pa_nil)) pa_nil)))))
      (pss_one (ps_ret (pv 3)))), ?_⟩
    refine ⟨_, rfl, q, _, rfl, .inl (SqL.of hq), fun a ha => ⟨Nat.zero_le _, fun r hr0 => ⟨_, _, rfl, ?_⟩⟩⟩
    have hra : r ≠ a := fun e => by
      rw [e, upd_same] at hr0
      cases hr0
    have hrn : H r = none := by
      rw [upd_ne hra] at hr0
      exact hr0
    have s1 : Same H (upd (upd H a (.lst (vI ns))) r (.lst [])) := (same_new ha).trans (same_new hr0)
    have za : upd (upd H a (.lst (vI ns))) r (.lst []) a = some (.lst (vI ns)) := by rw [upd_ne (Ne.symm hra), upd_same]
    have zr : upd (upd H a (.lst (vI ns))) r (.lst []) r = some (.lst (vI [])) := upd_same
    obtain ⟨a1, a2⟩ := d.off ha
    obtain ⟨r1, r2⟩ := d.off hrn
    refine ⟨fun m σ H' => ∃ us ms, σ = [some (.ref p), some (.ref q), some (.ref a), some (.ref r)] ∧ SameX p l H H' ∧ Deal H' p l ∧ H' a = some (.lst (vI us)) ∧ H' r = some (.lst (vI ms)) ∧ (ms ++ us).Perm ns ∧ m = us.length, ⟨_, ns, [], rfl, SameX.of s1, d.mono s1, za, zr, List.Perm.refl _, rfl⟩, ?_⟩
    rintro m σ H' ⟨us, ms, rfl, s2, d2, ha2, hr2, hp, rfl⟩
    have hlen := hp.length_eq
    rw [List.length_append] at hlen
    refine ⟨_, rfl, Nat.zero_le _, fun e he => ?_⟩
    have s3 : Same H' (upd H' e (.lst [])) := same_new he
    refine ⟨_, _, dp_listI (s3 _ _ ha2), dp_listI (ns := []) upd_same, shp_ints _, shp_ints _, _, rfl, ?_⟩
    rw [eqv_list_ints]
    have d3 := d2.mono s3
    have s23 := s2.trans (SameX.of (p := p) (l := l) s3)
    have ha3 := s3 _ _ ha2
    have hr3 := s3 _ _ hr2
    generalize upd H' e (.lst []) = H3 at s23 d3 ha3 hr3 ⊢
    by_cases c : us = []
    · subst c
      refine iteF ⟨_, rfl, ?_⟩
      rw [List.append_nil] at hp
      exact k r ms _ s23 d3 hrn hr3 hp
    · have hne : 0 < us.length := List.length_pos_iff.mpr c
      rw [decide_eq_false c]
      refine iteT ⟨fun σ' H'' => ∃ m', m' < us.length ∧ ∃ us ms, σ' = [some (.ref p), some (.ref q), some (.ref a), some (.ref r)] ∧ SameX p l H H'' ∧ Deal H'' p l ∧ H'' a = some (.lst (vI us)) ∧ H'' r = some (.lst (vI ms)) ∧ (ms ++ us).Perm ns ∧ m' = us.length, fun _ _ z => z, ?_⟩
      refine ⟨_, rfl, .inl ⟨rfl, _, SqL.of hr3⟩, _, rfl, .inl ⟨rfl, _, SqL.of ha3⟩, _, rfl, _, rfl, a, _, rfl, .inl (SqL.of ha3), p, l, us.length, (by rw [List.length_map]; rfl), d3, hne, by omega, fun j H4 s4 d4 hj => ?_⟩
      have ha4 := s4 _ _ a1 a2 ha3
      have hr4 := s4 _ _ r1 r2 hr3
      have ej : us[j]? = some us[j] := by simp [hj]
      have ej2 : (vI us)[j]? = some (.int us[j]) := by simp [hj]
      refine ⟨a, vI us, (j : Int), j, .int us[j], rfl, rfl, ha4, by omega, by omega, ?_, ej2, ?_⟩
      · rw [List.length_map]
        exact seq_at hj
      · have d5 : Deal (upd H4 a (.lst ((vI us).eraseIdx j))) p l := by
          obtain ⟨cs, b, z⟩ := d4
          exact ⟨cs, b, (upd_ne (Ne.symm a1)).trans z.top, (upd_ne (Ne.symm a2)).trans z.low, z.small, z.len⟩
        have s5 : SameX p l H (upd H4 a (.lst ((vI us).eraseIdx j))) := (s23.trans s4).mut ha
        have hr5 : upd H4 a (.lst ((vI us).eraseIdx j)) r = some (.lst (vI ms)) := (upd_ne hra).trans hr4
        have ha5 : upd H4 a (.lst ((vI us).eraseIdx j)) a = some (.lst (vI (us.eraseIdx j))) := by
          rw [upd_same, map_erase]
        generalize upd H4 a (.lst ((vI us).eraseIdx j)) = H5 at d5 s5 hr5 ha5 ⊢
        refine ⟨r, _, _, rfl, rfl, hr5, ?_, ?_⟩
        · rw [List.length_map]
          exact szl (by omega)
        · refine ⟨(us.eraseIdx j).length, ?_, us.eraseIdx j, ms ++ [us[j]], rfl, s5.mut hrn, ?_, ?_, ?_, ?_, rfl⟩
          · rw [List.length_eraseIdx_of_lt hj]
            omega
          · obtain ⟨cs, b, z⟩ := d5
            exact ⟨cs, b, (upd_ne (Ne.symm r1)).trans z.top, (upd_ne (Ne.symm r2)).trans z.low, z.small, z.len⟩
          · rw [upd_ne (Ne.symm hra)]
            exact ha5
          · rw [upd_same]
            unfold vI
            rw [List.map_append]
            rfl
          · rw [List.append_assoc]
            exact (List.Perm.append_left ms (erase_perm hj)).trans hp
end
end K45
namespace K45
open PySem L2 M45
abbrev sInv : Stmt := topS 31
abbrev sFitg : Stmt := topS 32
/-- each modulus has an inverse of the product before it -/
def invOk : Nat → List Nat → Bool
  | _, [] => true
  | W, q :: r => decide (q < 60) && (List.range q).any (fun k => decide ((k * W) % q = 1)) && invOk (W * q) r
theorem invOk_at : ∀ {L : List Nat} {W i q : Nat}, invOk W L = true → L[i]? = some q → q < 60 ∧ ∃ k, k < q ∧ (k * (W * prodN (L.take i))) % q = 1
  | [], _, _, _, _, e => absurd e (by simp)
  | a :: L, W, 0, q, h, e => by
    have e : a = q := Option.some.inj e
    subst e
    unfold invOk at h
    rw [Bool.and_eq_true, Bool.and_eq_true] at h
    obtain ⟨⟨h1, h2⟩, _⟩ := h
    obtain ⟨k, hk, h3⟩ := List.any_eq_true.mp h2
    refine ⟨of_decide_eq_true h1, k, List.mem_range.mp hk, ?_⟩
    have e : W * prodN (List.take 0 (a :: L)) = W := Nat.mul_one W
    rw [e]
    exact of_decide_eq_true h3
  | a :: L, W, i + 1, q, h, e => by
    unfold invOk at h
    rw [Bool.and_eq_true] at h
    obtain ⟨h1, k, h2, h3⟩ := invOk_at (L := L) (i := i) h.2 e
    refine ⟨h1, k, h2, ?_⟩
    have e : W * prodN (List.take (i + 1) (a :: L)) = W * a * prodN (List.take i L) := (Nat.mul_assoc _ _ _).symm
    rw [e]
    exact h3
theorem range_take {n i : Nat} (h : i < n) : (List.range n).take (i + 1) = (List.range n).take i ++ [i] := take_snoc (by rw [List.getElem?_range h])
section
variable {base : Heap} {P : Program} {w : World} {K : PySem.W.Frag} {mg : Str → Option Value}
/-! _law_inverse: never called -/
def spNo : Sp := fun _ _ _ _ => False
abbrev NIn : List Str := ["_law_number", "_law_q", "_law_rest", "_law_other", "_law_times", "_law_others", "_law_step"]
theorem scInv : FnScope NIn ["_law_number", "_law_q"] (defScope sInv) := ⟨rfl, rfl, rfl, by decide +kernel, rfl, by decide +kernel, by decide +kernel⟩
theorem ok_inv {f : Addr} {fd : FuncData} (F : Fun K "_law_inverse" "_law_inverse" sInv f fd) : FnOk P w K mg base CX0 1 f fd ["_law_number", "_law_q"] spNo :=
  F.ok scInv (fun vs H Q E h => h.elim) (fun cdv A outer s H vs Q E hr h => h.elim)
/-! _law_fitting -/
def spFitg : Sp := fun vs H Q _ => ∃ (p l t : Addr) (L : List Nat), vs = [.ref p, .ref t] ∧ Deal H p l ∧ H t = some (.tup (vN L)) ∧ invOk 1 L = true ∧ prodN L ≤ 1000 ∧ ∀ (z : Int) H', SameX p l H H' → Deal H' p l → z.natAbs ≤ 10000 → Q (.int z) H'
abbrev NFt : List Str := ["_law_deal", "_law_lot", "_law_found", "_law_whole", "_law_q", "_law_rest", "_law_inverse_here", "_law_k"]
theorem scFitg : FnScope NFt ["_law_deal", "_law_lot"] (defScope sFitg) := ⟨rfl, rfl, rfl, by decide +kernel, rfl, by decide +kernel, by decide +kernel⟩
theorem Deal.offT {H : Hp} {p l t : Addr} {xs : List V} (d : Deal H p l) (h : H t = some (.tup xs)) : t ≠ p ∧ t ≠ l := by
  obtain ⟨cs, b, d⟩ := d
  exact ⟨fun e => by (have := d.top; rw [← e, h] at this; cases this), fun e => by (have := d.low; rw [← e, h] at this; cases this)⟩
theorem ok_fitg {f : Addr} {fd : FuncData} (F : Fun K "_law_fitting" "_law_fitting" sFitg f fd) (T : Nms mg) (C1 : Callee P w K mg base CX0 1 "_law_any" ["_law_deal", "_law_bound"] spAny) (C2 : Callee P w K mg base CX0 1 "_law_inverse" ["_law_number", "_law_q"] spNo) :
    FnOk P w K mg base CX0 2 f fd ["_law_deal", "_law_lot"] spFitg := by
  obtain ⟨f1, fd1, G1, b1, m1, k1⟩ := C1.ex
  obtain ⟨f2, fd2, G2, b2, m2, k2⟩ := C2.ex
  refine F.ok scFitg (fun vs H Q E h => ?_) (fun cdv A outer s H vs Q E hr h => ?_)
  · obtain ⟨_, _, _, _, rfl, _⟩ := h
    rfl
  · obtain ⟨p, l, t, L, rfl, d, ht, hi, hW, k⟩ := h
    refine ⟨_, pss_cons (ps_asg (pe_tup (pa_cons pe_int (pa_cons pe_int pa_nil))) (pg_tup (by rfl) (pgs_cons (pg_name (i := 2) scFitg.nd rfl (.inl rfl)) (pgs_cons (pg_name (i := 3) scFitg.nd rfl (.inr rfl)) pgs_nil))))
      (pss_cons (ps_for PassesOwn.never rfl (pi_tup (pv 1)) (pg_name (i := 4) scFitg.nd rfl (.inr rfl))
        (pss_cons (ps_set (i := 5) scFitg.nd rfl (.inl rfl) (pe_call G1 hr (by rfl) m1 k1 b1 .nil pass0 (pa_cons (pv 0) (pa_cons pe_int pa_nil))))
        (pss_cons (ps_set (i := 6) scFitg.nd rfl (.inl rfl) (pe_ifExp (pt_cmpR op_lt (pv 4) pe_int (nomark _))
          (pe_ix ix_list (pe_lc (own := [("_law_k", 7)]) (g := gName 7) rfl scFitg.nd (pi_range1 (by rfl) T.range (pa_cons (pv 4) pa_nil)) (blkOk_by (N := NFt) (sc := defScope sFitg) (by decide +kernel))
              (fun _ _ _ _ _ => pg_name (i := 7) scFitg.nd rfl (Or.inl rfl)) (fun _ _ _ _ _ => pts_one (pt_cmpR op_eq (pe_op op_mod (pe_callTy call_int1 (by rfl) T.int bInt (pa_cons (pe_op op_mul (pv 7) (pv 3)) pa_nil)) (pv 4)) pe_int (nomark _))) (fun _ _ _ _ _ => pv 7)) pe_int (fun _ _ => rfl))
          (pe_call G2 hr (by rfl) m2 k2 b2 .nil pass0 (pa_cons (pv 3) (pa_cons (pv 4) pa_nil)))))
        (pss_cons (ps_set (i := 2) scFitg.nd rfl (.inl rfl) (pe_op op_add (pv 2) (pe_op op_mul (pv 3) (pe_op op_mod (pe_callTy call_int1 (by rfl) T.int bInt (pa_cons (pe_op op_mul (pe_op op_sub (pv 5) (pv 2)) (pv 6)) pa_nil)) (pv 4)))))
        (pss_one (ps_set (i := 3) scFitg.nd rfl (.inr rfl) (pe_op op_mul (pv 3) (pv 4))))))))
      (pss_one (ps_ret (pe_op op_add (pv 2) (pe_op op_mul (pv 3) (pe_op op_sub (pe_call G1 hr (by rfl) m1 k1 b1 .nil pass0 (pa_cons (pv 0) (pa_cons pe_int pa_nil))) pe_int)))))), ?_⟩
    refine ⟨by show 2 ≤ sizeLine; decide, fun u hu => ⟨u, _, rfl, SqT.of upd_same, rfl, _, _, rfl, _, _, rfl, rfl, ?_⟩⟩
    have s0 : Same H (upd H u (.tup [V.int 0, V.int 1])) := same_new hu
    have d0 := d.mono s0
    have ht0 := s0 _ _ ht
    obtain ⟨t1, t2⟩ := d.offT ht
    have sx : SameX p l H (upd H u (.tup [V.int 0, V.int 1])) := SameX.of s0
    generalize upd H u (.tup [V.int 0, V.int 1]) = H0 at d0 ht0 sx ⊢
    refine ⟨_, rfl, t, rfl, ⟨_, SqT.of ht0⟩, for_tup (K := K) (a := t) (xs := vN L) (fun i σ H' => ∃ (z : Nat) (v4 v5 v6 : Option V), σ = [some (.ref p), some (.ref t), some (.int (z : Int)), some (.int ((prodN (L.take i) : Nat) : Int)), v4, v5, v6, none] ∧ z < prodN (L.take i) ∧ SameX p l H0 H' ∧ Deal H' p l)
      ⟨0, none, none, none, rfl, Nat.one_pos, SameX.of (Same.refl _), d0⟩ (fun i σ H' _ ⟨_, _, _, _, _, _, e, _⟩ => SqT.of (e _ _ t1 t2 ht0)) ?_ ?_⟩
    · rintro i x σ H' hx ⟨z, v4, v5, v6, rfl, hz, s1, d1⟩
      obtain ⟨y, hy, rfl⟩ := map_at hx
      obtain ⟨q, hq, rfl⟩ := map_at hy
      obtain ⟨q60, kk, hk1, hk2⟩ := invOk_at hi hq
      rw [Nat.one_mul] at hk2
      rw [take_snoc hq, prod_snoc]
      generalize prodN (L.take i) = W at hz hk2 ⊢
      refine ⟨_, rfl, p, l, 2, rfl, d1, by decide, by decide, fun r H1 s2 d2 hr2 => ?_⟩
      refine ⟨_, rfl, _, _, rfl, rfl, _, rfl, ?_⟩
      rw [decide_eq_true (show (q : Int) < 60 by omega)]
      refine iteT ⟨_, rfl, _, rfl, by omega, by omega, fun D hD => ?_⟩
      have eq0 : ((q : Nat) : Int).toNat = q := by omega
      rw [eq0]
      refine loopR (lo := 0) (n := q) (fun j H2 => Cw H1 D (vN (((List.range q).take j).filter fun k => decide ((k * W) % q = 1))) H2) (Cw.start hD) ?_ ?_
      · intro j H2 hj cw
        have e3 : (0 : Int) + (j : Int) = (j : Int) := by omega
        rw [e3, range_take hj, List.filter_append]
        have hsm : (vN (((List.range q).take j).filter fun k => decide ((k * W) % q = 1))).length < 100000 := by
          have := List.length_filter_le (fun k => decide ((k * W) % q = 1)) ((List.range q).take j)
          rw [List.length_take] at this
          rw [List.length_map, List.length_map]
          omega
        refine ⟨rfl, ?_⟩
        refine ⟨_, rfl, _, rfl, _, _, rfl, rfl, .inl ⟨by omega, by omega⟩, .inl ⟨_, rfl, ?_⟩⟩
        refine ⟨_, rfl, _, _, rfl, rfl, (show (0 : Int) < (q : Int) by omega), rfl, _, rfl, ?_⟩
        have ed : decide (V.int (((j : Nat) : Int) * ((W : Nat) : Int) % (q : Int)) = V.int 1) = decide ((j * W) % q = 1) := eqN ((j * W) % q) 1
        rw [ed]
        by_cases c : (j * W) % q = 1
        · rw [decide_eq_true c]
          refine iteT ⟨_, rfl, ?_⟩
          exact cw.put (Same.refl _) hsm (by simp [c])
        · rw [decide_eq_false c]
          exact iteF (cw.skip (Same.refl _) (by simp [c]))
      · intro H2 cw
        have ef : (List.range q).take q = List.range q := List.take_of_length_le (by simp)
        rw [ef] at cw
        have hmem : kk ∈ (List.range q).filter fun k => decide ((k * W) % q = 1) := List.mem_filter.mpr ⟨List.mem_range.mpr hk1, decide_eq_true hk2⟩
        cases hfl : (List.range q).filter fun k => decide ((k * W) % q = 1) with
        | nil =>
          rw [hfl] at hmem
          cases hmem
        | cons k0 ks =>
          rw [hfl] at cw
          have hk0 : k0 < q := List.mem_range.mp (List.mem_filter.mp (by rw [hfl]; exact List.mem_cons_self)).1
          have s3 : SameX p l H0 H2 := (s1.trans s2).trans (SameX.of cw.same)
          have d3 := d2.mono cw.same
          refine ⟨D, _, 0, .int (k0 : Int), rfl, rfl, SqL.of cw.here, atI_nat (j := 0) rfl, ?_⟩
          refine ⟨_, rfl, _, rfl, _, rfl, _, rfl, _, _, rfl, rfl, _, rfl, _, _, rfl, rfl, .inr ⟨by omega, by omega⟩, .inl ⟨_, rfl, ?_⟩⟩
          have m0 := Int.emod_nonneg (((r : Int) - (z : Int)) * (k0 : Int)) (show (q : Int) ≠ 0 by omega)
          have m1 := Int.emod_lt_of_pos (((r : Int) - (z : Int)) * (k0 : Int)) (show (0 : Int) < (q : Int) by omega)
          obtain ⟨e, he⟩ : ∃ e : Nat, ((r : Int) - (z : Int)) * (k0 : Int) % (q : Int) = (e : Int) := ⟨(((r : Int) - (z : Int)) * (k0 : Int) % (q : Int)).toNat, by omega⟩
          have heq : e < q := by omega
          refine ⟨_, rfl, _, _, rfl, rfl, (show (0 : Int) < (q : Int) by omega), ?_⟩
          refine ⟨(W : Int), (e : Int), rfl, congrArg V.int he, .inr ⟨by omega, by omega⟩, _, _, rfl, rfl, ?_⟩
          refine ⟨_, rfl, _, rfl, _, _, rfl, rfl, .inr ⟨by omega, by omega⟩, ?_⟩
          refine ⟨z + W * e, some (.int (q : Int)), some (.int (r : Int)), some (.int (k0 : Int)), rfl, ?_, s3, d3⟩
          have : W * e ≤ W * (q - 1) := Nat.mul_le_mul_left _ (by omega)
          have e2 : W * (q - 1) + W = W * q := by
            obtain ⟨q', rfl⟩ : ∃ q', q = q' + 1 := ⟨q - 1, by omega⟩
            rw [Nat.add_sub_cancel, Nat.mul_succ]
          omega
    · rintro σ H' ⟨z, v4, v5, v6, rfl, hz, s1, d1⟩
      rw [List.length_map, List.length_map, take_all] at hz ⊢
      refine ⟨_, rfl, _, rfl, _, rfl, p, l, 7, rfl, d1, by decide, by decide, fun r H1 s2 d2 hr2 => ?_⟩
      refine ⟨_, _, rfl, rfl, _, _, rfl, rfl, .inr ⟨by omega, by omega⟩, _, _, rfl, rfl, ?_⟩
      refine k _ H1 ((sx.trans s1).trans s2) d2 ?_
      have b1 : -(3 * (prodN L : Int)) ≤ (prodN L : Int) * ((r : Int) - 3) := by
        have := Int.mul_le_mul_of_nonneg_left (show (-3 : Int) ≤ (r : Int) - 3 by omega) (show (0 : Int) ≤ (prodN L : Int) by omega)
        omega
      have b2 : (prodN L : Int) * ((r : Int) - 3) ≤ 3 * (prodN L : Int) := by
        have := Int.mul_le_mul_of_nonneg_left (show (r : Int) - 3 ≤ 3 by omega) (show (0 : Int) ≤ (prodN L : Int) by omega)
        omega
      generalize (prodN L : Int) * ((r : Int) - 3) = y at b1 b2 ⊢
      omega
end
end K45
namespace K45
open PySem L2 M45
abbrev sDraw : Stmt := topS 26
section
variable {base : Heap} {P : Program} {w : World} {K : PySem.W.Frag} {mg : Str → Option Value}
/-! _law_draw -/
def spDraw (K : PySem.W.Frag) : Sp := fun vs H Q _ => ∃ (a : Addr) (ns : List Int), vs = [.ref a, .int 45] ∧ SqL K H a (vI ns) ∧ ∀ (p l : Addr) H', Same H H' → H p = none → H l = none → Deal H' p l → Q (.ref p) H'
abbrev NDr : List Str := ["_law_script", "_law_salt", "_law_cell", "_law_cells", "_law_blend"]
theorem scDraw : FnScope NDr ["_law_script", "_law_salt"] (defScope sDraw) := ⟨rfl, rfl, rfl, by decide +kernel, rfl, by decide +kernel, by decide +kernel⟩
theorem seq_same {K : PySem.W.Frag} {a : Addr} {xs : List V} {H H' : Hp} (e : Same H H') (h : SqL K H a xs) : SqL K H' a xs := by
  rcases (h) with (h | ⟨o, h⟩) | h
  · exact .inl (.inl (e _ _ h))
  · exact (.inl (.inr ⟨o, e _ _ h⟩))
  · exact .inr h
theorem ok_draw {f : Addr} {fd : FuncData} (F : Fun K "_law_draw" "_law_draw" sDraw f fd) (T : Nms mg) : FnOk P w K mg base CX0 1 f fd ["_law_script", "_law_salt"] (spDraw K) := by
  refine F.ok scDraw (fun vs H Q E h => ?_) (fun cdv A outer s H vs Q E hr h => ?_)
  · obtain ⟨_, _, rfl, _⟩ := h
    rfl
  · obtain ⟨a, ns, rfl, ha, k⟩ := h
    refine ⟨_, pss_cons (ps_setLc (i := 3) (own := [("_law_cell", 2)]) (g := gName 2) (tt := tYes) rfl scDraw.nd rfl rfl (sw_true rfl rfl rfl rfl) (pi_list (pe_slice sl_list (pv 0) po_none (po_some pe_int))) (blkOk_by (N := NDr) (sc := defScope sDraw) (by decide +kernel))
          (fun _ _ _ _ _ => pg_name (i := 2) scDraw.nd rfl (Or.inl rfl)) (fun _ _ _ _ _ => pts_nil) (fun _ _ _ _ _ => pe_callB call_abs (by rfl) T.abs bAbs (pa_cons (pe_callTy call_int1 (by rfl) T.int bInt (pa_cons (pv 2) pa_nil)) pa_nil)))
      (pss_cons (ps_set (i := 4) scDraw.nd rfl (.inl rfl) (pe_op op_add pe_int (pe_op op_mul pe_int (pv 1))))
      (pss_cons (ps_for PassesOwn.never rfl (pi_list (pv 3)) (pg_name (i := 2) scDraw.nd rfl (.inl rfl)) (pss_one (ps_set (i := 4) scDraw.nd rfl (.inl rfl)
          (pe_op op_mod (pe_callTy call_int1 (by rfl) T.int bInt (pa_cons (pe_op op_add (pe_op op_add (pe_op op_mul (pv 4) pe_int) (pe_op op_mod (pv 2) pe_int)) pe_int) pa_nil)) pe_int))))
      (pss_one (ps_ret (pe_lst (pa_cons (pe_revL (pe_lc (own := [("_law_cell", 2)]) (g := gName 2) rfl scDraw.nd (pi_list (pv 3)) (blkOk_by (N := NDr) (sc := defScope sDraw) (by decide +kernel))
          (fun _ _ _ _ _ => pg_name (i := 2) scDraw.nd rfl (Or.inl rfl)) (fun _ _ _ _ _ => pts_one (pt_cmpR op_ge (pv 2) (pe_op op_pow pe_int pe_int) (nomark _))) (fun _ _ _ _ _ => pv 2))) (pa_cons (pv 4) pa_nil))))))), ?_⟩
    refine ⟨_, rfl, _, rfl, a, vI ns, rfl, ha, fun e he => ?_⟩
    have ec : cutV (vI ns) none (some 48) = vI (ns.take 48) := (cut_take (vI ns) 48).trans List.map_take.symm
    rw [ec]
    have hl : (ns.take 48).length ≤ 48 := by rw [List.length_take]; omega
    have s1 : Same H (upd H e (.lst (vI (ns.take 48)))) := same_new he
    have he1 : upd H e (.lst (vI (ns.take 48))) e = some (.lst (vI (ns.take 48))) := upd_same
    generalize upd H e (.lst (vI (ns.take 48))) = H1 at s1 he1 ⊢
    generalize ns.take 48 = ms at he1 hl
    refine ⟨e, rfl, ⟨_, SqL.of he1⟩, fun D hD => loopL (K := K) (a := e) (xs := vI ms) (fun j H2 => Cw H1 D (vN ((ms.take j).map Int.natAbs)) H2) (Cw.start hD) (fun j H2 _ cw => SqL.of (cw.same _ _ he1)) ?_ ?_⟩
    · intro j x H2 hj cw
      obtain ⟨c, hc, rfl⟩ := map_at hj
      have hlt := at_lt hc
      refine ⟨rfl, ?_⟩
      refine ⟨_, rfl, .inl ⟨_, rfl, ?_⟩⟩
      refine ⟨_, rfl, ?_⟩
      rw [abs_nat]
      refine cw.put (Same.refl _) (by rw [List.length_map, List.length_map, List.length_map, List.length_take]; omega) ?_
      rw [take_snoc hc, List.map_append]
      unfold vN vI iN
      rw [List.map_append, List.map_append]
      rfl
    · intro H2 cw
      rw [List.length_map, take_all] at cw
      have s2 := s1.trans cw.same
      have hDn : H D = none := none_back s1 hD
      have hD2 := cw.here
      have hl2 : (ms.map Int.natAbs).length ≤ 48 := by rw [List.length_map]; exact hl
      generalize ms.map Int.natAbs = cs at hD2 hl2
      refine ⟨_, rfl, _, _, rfl, rfl, .inl ⟨by decide, by decide⟩, _, _, rfl, rfl, ?_⟩
      refine ⟨_, rfl, D, rfl, ⟨_, SqL.of hD2⟩, for_list (K := K) (a := D) (xs := vN cs) (fun i σ H' => ∃ (v : Option V) (b : Nat), σ = [some (.ref a), some (.int 45), v, some (.ref D), some (.int (b : Int))] ∧ b < 2147483648 ∧ H' = H2) ⟨none, 7919 + 104729 * 45, rfl, by decide, rfl⟩ (fun i σ H' _ ⟨_, _, _, _, e⟩ => by rw [e]; exact SqL.of hD2) ?_ ?_⟩
      · rintro i x σ H' hx ⟨v, b, rfl, hb, rfl⟩
        obtain ⟨z, hz, rfl⟩ := map_at hx
        obtain ⟨c, hc, rfl⟩ := map_at hz
        refine ⟨_, rfl, _, _, rfl, rfl, .inr ⟨by decide, by decide⟩, _, rfl, _, _, rfl, rfl, (show (0 : Int) < 2147483549 by decide), _, _, rfl, rfl, _, _, rfl, rfl, .inl ⟨_, rfl, ?_⟩⟩
        refine ⟨_, _, rfl, rfl, (show (0 : Int) < 2147483647 by decide), ?_⟩
        exact ⟨some (.int (c : Int)), (b * 48271 + c % 2147483549 + 11) % 2147483647, rfl, Nat.lt_trans (Nat.mod_lt _ (by decide)) (by decide), rfl⟩
      · rintro σ H' ⟨v, b, rfl, hb, rfl⟩
        refine ⟨_, rfl, D, rfl, ⟨_, SqL.of hD2⟩, fun D2 hD3 => loopL (K := K) (a := D) (xs := vN cs) (fun j H4 => Cw H' D2 (vN ((cs.take j).filter fun (c : Nat) => decide ((10 : Int) ^ 18 ≤ (c : Int)))) H4) (Cw.start hD3) (fun j H4 _ c4 => SqL.of (c4.same _ _ hD2)) ?_ ?_⟩
        · intro j x H4 hj c4
          obtain ⟨z, hz, rfl⟩ := map_at hj
          obtain ⟨c, hc, rfl⟩ := map_at hz
          have hlt := at_lt hc
          have hsm : (vN ((cs.take j).filter fun (c : Nat) => decide ((10 : Int) ^ 18 ≤ (c : Int)))).length < 100000 := by
            have := List.length_filter_le (fun (c : Nat) => decide ((10 : Int) ^ 18 ≤ (c : Int))) (cs.take j)
            rw [List.length_take] at this
            rw [List.length_map, List.length_map]
            omega
          rw [take_snoc hc, List.filter_append]
          refine ⟨rfl, ?_⟩
          refine ⟨_, rfl, 10, 18, rfl, rfl, ⟨by decide, by decide, by decide⟩, (c : Int), 10 ^ 18, rfl, rfl, _, rfl, ?_⟩
          by_cases h : (10 : Int) ^ 18 ≤ (c : Int)
          · rw [decide_eq_true h]
            refine iteT ⟨_, rfl, ?_⟩
            refine c4.put (Same.refl _) hsm ?_
            have e : [c].filter (fun (c : Nat) => decide ((10 : Int) ^ 18 ≤ (c : Int))) = [c] := by simp only [List.filter_cons, decide_eq_true h, List.filter_nil, if_true]
            rw [e]
            unfold vN vI iN
            rw [List.map_append, List.map_append]
            rfl
          · rw [decide_eq_false h]
            refine iteF (c4.skip (Same.refl _) ?_)
            have e : [c].filter (fun (c : Nat) => decide ((10 : Int) ^ 18 ≤ (c : Int))) = [] := by simp only [List.filter_cons, decide_eq_false h, List.filter_nil, if_false, Bool.false_eq_true]
            rw [e, List.append_nil]
        · intro H4 c4
          rw [List.length_map, List.length_map, take_all] at c4
          have hfl := List.length_filter_le (fun (c : Nat) => decide ((10 : Int) ^ 18 ≤ (c : Int))) cs
          have h4 := c4.here
          have s4 := s2.trans c4.same
          generalize (cs.filter fun (c : Nat) => decide ((10 : Int) ^ 18 ≤ (c : Int))) = ds at hfl h4
          refine ⟨D2, _, rfl, SqL.of h4, fun l hl5 => ⟨_, rfl, by show 2 ≤ sizeLine; decide, fun p hp5 => ?_⟩⟩
          have s5 : Same H4 (upd H4 l (.lst (vN ds).reverse)) := same_new hl5
          have hlp : l ≠ p := fun z => by
            rw [← z, upd_same] at hp5
            cases hp5
          refine k p l _ ((s4.trans s5).trans (same_new hp5)) (none_back (s4.trans s5) hp5) (none_back s4 hl5) ⟨ds.reverse, b, upd_same, ?_, hb, by rw [List.length_reverse]; omega⟩
          rw [upd_ne hlp, upd_same]
          unfold vN vI iN
          rw [List.map_reverse, List.map_reverse]
end
end K45
namespace K45
open PySem L2 M45
abbrev sSmall : Stmt := topS 36
def tInts : List Nat → TA
  | [] => tNil
  | n :: r => tCons (tC (.int (n : Int))) (tInts r)
def tTups : List (List Nat) → TA
  | [] => tNil
  | A :: r => tCons (tTup (tInts A)) (tTups r)
theorem ints_read : ∀ (A : List Nat) {σ : L2.St} {H : Hp} {C : List V → Hp → Prop}, C (vN A) H → tInts A σ H C
  | [], _, _, _, k => k
  | n :: r, σ, H, C, k => ints_read r (σ := σ) (H := H) (C := fun xs H2 => C (.int (n : Int) :: xs) H2) k
theorem tups_read : ∀ (F : List (List Nat)) {σ : L2.St} {H : Hp} {C : List V → Hp → Prop}, (∀ A ∈ F, A.length ≤ 100) → (∀ xs H', Same H H' → TsAt H' xs F → C xs H') → tTups F σ H C
  | [], _, H, _, _, k => k [] H (Same.refl _) .nil
  | A :: r, σ, H, C, hA, k => by
    show tInts A σ H fun xs H1 => xs.length ≤ sizeLine ∧ ∀ p, H1 p = none → tTups r σ (upd H1 p (.tup xs)) fun ys H2 => C (.ref p :: ys) H2
    refine ints_read A ⟨?_, fun p hp => ?_⟩
    · rw [List.length_map, List.length_map]
      exact sz (by have := hA A List.mem_cons_self; omega)
    · have s1 : Same H (upd H p (.tup (vN A))) := same_new hp
      refine tups_read r (fun B hB => hA B (List.mem_cons_of_mem _ hB)) fun xs H' s2 hx => ?_
      exact k _ _ (s1.trans s2) (.cons ⟨p, rfl, s2 _ _ upd_same⟩ hx)
theorem lstI_read (A : List Nat) {σ : L2.St} {H : Hp} {C : List V → Hp → Prop} (hl : A.length ≤ 100) (k : ∀ q, H q = none → C [.ref q] (upd H q (.lst (vN A)))) : tCons (tLst (tInts A)) tNil σ H C := by
  show tInts A σ H fun xs H1 => xs.length ≤ sizeLine ∧ ∀ p, H1 p = none → C [.ref p] (upd H1 p (.lst xs))
  refine ints_read A ⟨?_, k⟩
  rw [List.length_map, List.length_map]
  exact sz (by omega)
theorem lstT_read (F : List (List Nat)) {σ : L2.St} {H : Hp} {C : List V → Hp → Prop} (hl : F.length ≤ 100) (hA : ∀ A ∈ F, A.length ≤ 100) (k : ∀ xs H', Same H H' → TsAt H' xs F → ∀ q, H' q = none → C [.ref q] (upd H' q (.lst xs))) : tCons (tLst (tTups F)) tNil σ H C := by
  show tTups F σ H fun xs H1 => xs.length ≤ sizeLine ∧ ∀ p, H1 p = none → C [.ref p] (upd H1 p (.lst xs))
  refine tups_read F hA fun xs H' s hx => ⟨?_, k xs H' s hx⟩
  rw [hx.len]
  exact sz (by omega)
theorem Deal.mut {H : Hp} {p l q : Addr} {o : HO} (d : Deal H p l) (h1 : q ≠ p) (h2 : q ≠ l) : Deal (upd H q o) p l := by
  obtain ⟨cs, b, z⟩ := d
  exact ⟨cs, b, (upd_ne (Ne.symm h1)).trans z.top, (upd_ne (Ne.symm h2)).trans z.low, z.small, z.len⟩
abbrev theLots : List (List Nat) := [[], [3], [4], [6], [3, 4], [12], [3, 10], [5, 6], [30], [4, 5]]
abbrev theNums : List Nat := [1, 2, 3, 4, 6, 9, 10, 12, 15, 20, 21, 30, 36, 42, 60]
theorem zero_prod {L : List Nat} (h : 0 < prodN L) : 0 ∉ L := fun z => by
  have := dvd_prod z
  have := Nat.eq_zero_of_zero_dvd this
  omega
/-- [n, n + 1] or [] -/
theorem first_read {σ : L2.St} {H : Hp} {p l : Addr} {n : Nat} {C : V → Hp → Prop} (h0 : σ[0]? = some (some (.ref p))) (h4 : σ[4]? = some (some (.int (n : Int)))) (hn : n ≤ 60) (d : Deal H p l)
    (k : ∀ (y : Addr) (us : List Int) H', SameX p l H H' → Deal H' p l → H y = none → y ≠ p → y ≠ l → H' y = some (.lst (vI us)) → us.length ≤ 2 → (∀ u ∈ us, u.natAbs ≤ 10000) → C (.ref y) H') :
    tIf (tTest (tOp rEq (tCall spAny [] E0 (tCons (tVar 0) (tCons (tC (.int 2)) tNil))) (tC (.int 0)))) (tLst (tCons (tVar 4) (tCons (tOp (rI0 fun i j => .int (i + j)) (tVar 4) (tC (.int 1))) tNil))) (tLst tNil) σ H C := by
  refine ⟨_, h0, p, l, 2, rfl, d, by decide, by decide, fun r H1 s1 d1 hr => ?_⟩
  refine ⟨rfl, _, rfl, ?_⟩
  have fin : ∀ us : List Int, us.length ≤ 2 → (∀ u ∈ us, u.natAbs ≤ 10000) → ∀ y, H1 y = none → C (.ref y) (upd H1 y (.lst (vI us))) := fun us h1 h2 y hy => by
    have hyn : y ≠ p ∧ y ≠ l := d1.off hy
    have hyH : H y = none := by
      cases e : H y with
      | none => rfl
      | some u =>
        have := s1 y u hyn.1 hyn.2 e
        rw [hy] at this
        cases this
    exact k y us _ (s1.trans (SameX.of (same_new hy))) (d1.mut hyn.1 hyn.2) hyH hyn.1 hyn.2 upd_same h1 h2
  cases decide (V.int (r : Int) = V.int 0) with
  | true =>
    refine iteT ⟨_, h4, _, h4, _, _, rfl, rfl, by show 2 ≤ sizeLine; decide, fun y hy => ?_⟩
    refine fin [(n : Int), (n : Int) + 1] (Nat.le_refl _) (fun u hu => ?_) y hy
    rcases (List.mem_cons.mp hu) with rfl | hu
    · omega
    · have := List.mem_singleton.mp hu
      omega
  | false =>
    exact iteF ⟨Nat.zero_le _, fun y hy => fin [] (Nat.zero_le _) (fun u hu => by cases hu) y hy⟩
theorem parts_small : lotOf [13, 12] = some [12] := by
  have e1 : stepS [0] 13 = [12, 13] := (srt_of (l := [12, 13]) (m := step1 [0] 13) (by decide +kernel) (by decide)).symm
  have e2 : stepS [12, 13] 12 = [12] := (srt_of (l := [12]) (m := step1 [12, 13] 12) (by decide +kernel) (by decide)).symm
  have e : parts [13, 12] = [12] := by
    show stepS (stepS [0] 13) 12 = _
    rw [e1, e2]
  unfold lotOf
  rw [e]
  rfl
section
variable {base : Heap} {P : Program} {w : World} {K : PySem.W.Frag} {mg : Str → Option Value}
/-! _law_small -/
def spSmall : Sp := fun vs H Q _ => ∃ (p l : Addr), vs = [.ref p] ∧ Deal H p l ∧ ∀ (t y tl : Addr) (ns : List Int) (L : List Nat) H', SameX p l H H' → Deal H' p l → H y = none → y ≠ p → y ≠ l → H' t = some (.tup [.ref y, .ref tl]) → H' y = some (.lst (vI ns)) → H' tl = some (.tup (vN L)) → ns.length ≤ 6 → lotOf ns = some L → prodN L < 90 → Q (.ref t) H'
abbrev NSm : List Str := ["_law_deal", "_law_found", "_law_whole", "_law_turn", "_law_number", "_law_lot", "_law_again", "_law_parts_here", "_law_q"]
theorem scSmall : FnScope NSm ["_law_deal"] (defScope sSmall) := ⟨rfl, rfl, rfl, by decide +kernel, rfl, by decide +kernel, by decide +kernel⟩
theorem ok_small {f : Addr} {fd : FuncData} (F : Fun K "_law_small" "_law_small" sSmall f fd) (T : Nms mg) (C1 : Callee P w K mg base CX0 1 "_law_any" ["_law_deal", "_law_bound"] spAny) (C2 : Callee P w K mg base CX0 2 "_law_of" ["_law_deal", "_law_some"] spOf)
    (C3 : Callee P w K mg base CX0 2 "_law_fitting" ["_law_deal", "_law_lot"] spFitg) (C4 : Callee P w K mg base CX0 2 "_law_parts" ["_law_counts"] spPartsL) (C5 : Callee P w K mg base CX0 2 "_law_mixed" ["_law_deal", "_law_some"] spMix) :
    FnOk P w K mg base CX0 3 f fd ["_law_deal"] spSmall := by
  obtain ⟨f1, fd1, G1, b1, m1, k1⟩ := C1.ex
  obtain ⟨f2, fd2, G2, b2, m2, k2⟩ := C2.ex
  obtain ⟨f3, fd3, G3, b3, m3, k3⟩ := C3.ex
  obtain ⟨f4, fd4, G4, b4, m4, k4⟩ := C4.ex
  obtain ⟨f5, fd5, G5, b5, m5, k5⟩ := C5.ex
  refine F.ok scSmall (fun vs H Q E h => ?_) (fun cdv A outer s H vs Q E hr h => ?_)
  · obtain ⟨_, _, rfl, _⟩ := h
    rfl
  · obtain ⟨p, l, rfl, d, k⟩ := h
    have hr1 : Room 1 _ := hr.mono (by decide)
    refine ⟨_, pss_cons (ps_par (i := 1) (j := 2) rfl scSmall.nd rfl rfl (by decide) rfl rfl (pa_cons (pe_lst pa_nil) (pa_cons pe_int pa_nil)) (by rfl))
      (pss_cons (ps_for PassesOwn.never rfl (pi_range1 (by rfl) T.range (pa_cons pe_int pa_nil)) (pg_name (i := 3) scSmall.nd rfl (.inl rfl))
        (pss_cons (ps_set (i := 4) scSmall.nd rfl (.inl rfl) (pe_call G2 hr (by rfl) m2 k2 b2 .nil pass0 (pa_cons (pv 0) (pa_cons (pe_lst (t := tInts theNums)
            (pa_cons pe_int (pa_cons pe_int (pa_cons pe_int (pa_cons pe_int (pa_cons pe_int (pa_cons pe_int (pa_cons pe_int (pa_cons pe_int (pa_cons pe_int (pa_cons pe_int (pa_cons pe_int (pa_cons pe_int (pa_cons pe_int (pa_cons pe_int (pa_cons pe_int pa_nil)))))))))))))))) pa_nil))))
        (pss_cons (ps_set (i := 5) scSmall.nd rfl (.inl rfl) (pe_call G2 hr (by rfl) m2 k2 b2 .nil pass0 (pa_cons (pv 0) (pa_cons (pe_lst (t := tTups theLots)
            (pa_cons (pe_tup pa_nil) (pa_cons (pe_tup (pa_cons pe_int pa_nil)) (pa_cons (pe_tup (pa_cons pe_int pa_nil)) (pa_cons (pe_tup (pa_cons pe_int pa_nil)) (pa_cons (pe_tup (pa_cons pe_int (pa_cons pe_int pa_nil))) (pa_cons (pe_tup (pa_cons pe_int pa_nil))
              (pa_cons (pe_tup (pa_cons pe_int (pa_cons pe_int pa_nil))) (pa_cons (pe_tup (pa_cons pe_int (pa_cons pe_int pa_nil))) (pa_cons (pe_tup (pa_cons pe_int pa_nil)) (pa_cons (pe_tup (pa_cons pe_int (pa_cons pe_int pa_nil))) pa_nil))))))))))) pa_nil))))
        (pss_cons (ps_set (i := 1) scSmall.nd rfl (.inl rfl) (pe_ifExp (pt_cmpR op_eq (pe_call G1 hr1 (by rfl) m1 k1 b1 .nil pass0 (pa_cons (pv 0) (pa_cons pe_int pa_nil))) pe_int (nomark _)) (pe_lst (pa_cons (pv 4) (pa_cons (pe_op op_add (pv 4) pe_int) pa_nil))) (pe_lst pa_nil)))
        (pss_cons (ps_for PassesOwn.never rfl (pi_range1 (by rfl) T.range (pa_cons (pe_call G1 hr1 (by rfl) m1 k1 b1 .nil pass0 (pa_cons (pv 0) (pa_cons pe_int pa_nil))) pa_nil)) (pg_name (i := 6) scSmall.nd rfl (.inl rfl))
            (pss_one (ps_expr (pe_bm PySem.F.plainAttrs_list PySem.F.slot_list_append PySem.F.type_list_append mt_append (pv 1) (pa_cons (pe_call G3 hr (by rfl) m3 k3 b3 .nil pass0 (pa_cons (pv 0) (pa_cons (pv 5) pa_nil))) pa_nil)))))
        (pss_cons (ps_par (i := 7) (j := 2) rfl scSmall.nd rfl rfl (by decide) rfl rfl (pa_cons (pe_call G4 hr (by rfl) m4 k4 b4 .nil pass0 (pa_cons (pv 1) pa_nil)) (pa_cons pe_int pa_nil)) (by rfl))
        (pss_cons (ps_for PassesOwn.never rfl (pi_list (pv 7)) (pg_name (i := 8) scSmall.nd rfl (.inl rfl)) (pss_one (ps_set (i := 2) scSmall.nd rfl (.inl rfl) (pe_op op_mul (pv 2) (pv 8)))))
        (pss_one (ps_if (pt_chain op_lt op_lt pe_int (pv 2) pe_int) (pss_one (ps_ret (pe_tup (pa_cons (pe_call G5 hr (by rfl) m5 k5 b5 .nil pass0 (pa_cons (pv 0) (pa_cons (pv 1) pa_nil))) (pa_cons (pe_callTy call_tuple_of (by rfl) T.tuple bTuple (pa_cons (pv 7) pa_nil)) pa_nil))))) pss_nil)))))))))
      (pss_one (ps_ret (pe_tup (pa_cons (pe_lst (pa_cons pe_int (pa_cons pe_int pa_nil))) (pa_cons (pe_tup (pa_cons pe_int pa_nil)) pa_nil)))))), ?_⟩
    refine ⟨Nat.zero_le _, fun y0 hy0 => ⟨_, _, rfl, ?_⟩⟩
    have s0 : Same H (upd H y0 (.lst [])) := same_new hy0
    refine ⟨6, rfl, by decide, by decide, ?_⟩
    have e6 : (6 : Int).toNat = 6 := rfl
    rw [e6]
    refine for_range (lo := 0) (n := 6) (fun i σ H' => ∃ v1 v2 v3 v4 v5 v6 v7 v8, σ = [some (.ref p), v1, v2, v3, v4, v5, v6, v7, v8] ∧ SameX p l H H' ∧ Deal H' p l) ⟨_, _, _, _, _, _, _, _, rfl, SameX.of s0, d.mono s0⟩ ?_ ?_
    · rintro i σ H' hi ⟨v1, v2, v3, v4, v5, v6, v7, v8, rfl, s1, d1⟩
      refine ⟨_, rfl, ?_⟩
      refine lstI_read theNums (by decide) fun q hq => ?_
      have s2 : Same H' (upd H' q (.lst (vN theNums))) := same_new hq
      obtain ⟨q1, q2⟩ := d1.off hq
      refine ⟨p, l, q, _, rfl, d1.mono s2, upd_same, q1, q2, by decide, by decide, fun x H2 hx s3 d3 => ?_⟩
      obtain ⟨z, hz, rfl⟩ := List.mem_map.mp hx
      obtain ⟨n, hn, rfl⟩ := List.mem_map.mp hz
      have hn60 : n ≤ 60 := (show ∀ n ∈ theNums, n ≤ 60 by decide) n hn
      have s13 : SameX p l H H2 := (s1.trans (SameX.of s2)).trans s3
      refine ⟨_, rfl, ?_⟩
      refine lstT_read theLots (by decide) (by decide) fun ts H3 s4 hts q' hq' => ?_
      have d4 := d3.mono s4
      have s5 : Same H3 (upd H3 q' (.lst ts)) := same_new hq'
      obtain ⟨q3, q4⟩ := d4.off hq'
      refine ⟨p, l, q', ts, rfl, d4.mono s5, upd_same, q3, q4, by rw [hts.len]; decide, by rw [hts.len]; decide, fun x H4 hx s6 d6 => ?_⟩
      have s16 : SameX p l H H4 := (s13.trans (SameX.of (s4.trans s5))).trans s6
      obtain ⟨L0, hL0, tA, rfl, htA⟩ := hts.mem x hx
      obtain ⟨o1, o2⟩ := d4.offT htA
      have htA4 := s6 _ _ o1 o2 (s5 _ _ htA)
      obtain ⟨io, pl⟩ := (show ∀ A ∈ theLots, invOk 1 A = true ∧ prodN A ≤ 1000 by decide) L0 hL0
      refine first_read (n := n) rfl rfl hn60 d6 fun y us H5 s7 d7 hy0 y1 y2 hy hul hub => ?_
      have s17 := s16.trans s7
      have htA5 := s7 _ _ o1 o2 htA4
      have hyH : H y = none := by
        cases e : H y with
        | none => rfl
        | some u =>
          have := s16 y u y1 y2 e
          rw [hy0] at this
          cases this
      refine ⟨_, rfl, p, l, 4, rfl, d7, by decide, by decide, fun r H6 s8 d8 hr4 => ?_⟩
      refine ⟨_, rfl, by omega, by omega, ?_⟩
      have er : ((r : Nat) : Int).toNat = r := by omega
      rw [er]
      refine for_range (lo := 0) (n := r) (fun j σ H7 => ∃ v6 us, σ = [some (.ref p), some (.ref y), v2, some (.int (0 + (i : Int))), some (.int (n : Int)), some (.ref tA), v6, v7, v8] ∧ SameX p l H H7 ∧ Deal H7 p l ∧ H7 y = some (.lst (vI us)) ∧ H7 tA = some (.tup (vN L0)) ∧ us.length ≤ 2 + j ∧ (∀ u ∈ us, u.natAbs ≤ 10000))
        ⟨v6, us, rfl, s17.trans s8, d8, s8 _ _ y1 y2 hy, s8 _ _ o1 o2 htA5, hul, hub⟩ ?_ ?_
      · rintro j σ H7 hj ⟨v6, us, rfl, s9, d9, hy9, ht9, hl9, hb9⟩
        refine ⟨_, rfl, .inl ⟨rfl, _, SqL.of hy9⟩, _, rfl, _, rfl, p, l, tA, L0, rfl, d9, ht9, io, pl, fun z H8 s10 d10 hz => ?_⟩
        have hy10 := s10 _ _ y1 y2 hy9
        refine ⟨y, _, _, rfl, rfl, hy10, ?_, ?_⟩
        · rw [List.length_map]
          exact szl (by omega)
        · refine ⟨_, us ++ [z], rfl, (s9.trans s10).mut hyH, d10.mut y1 y2, ?_, ?_, ?_, ?_⟩
          · rw [upd_same]
            unfold vI
            rw [List.map_append]
            rfl
          · rw [upd_ne fun e => by (have := s10 _ _ o1 o2 ht9; rw [e, hy10] at this; cases this)]
            exact s10 _ _ o1 o2 ht9
          · rw [List.length_append]
            show _ + 1 ≤ _
            omega
          · intro u hu
            rcases (List.mem_append.mp hu) with hu | hu
            · exact hb9 u hu
            · rw [List.mem_singleton.mp hu]
              exact hz
      · rintro σ H7 ⟨v6, us, rfl, s9, d9, hy9, ht9, hl9, hb9⟩
        refine ⟨_, rfl, y, us, rfl, hy9, by omega, fun qp H8 s10 hqn hqp => ⟨_, _, rfl, ?_⟩⟩
        obtain ⟨g1, g2⟩ := d9.off hqn
        have d10 := d9.mono s10
        have hy10 := s10 _ _ hy9
        have pb : ∀ o ∈ parts us, o ≤ 10001 := parts_bound us [0] (fun c hc => by have := hb9 c hc; omega) (by decide)
        refine ⟨_, rfl, qp, rfl, ⟨_, SqL.of hqp⟩, for_list (K := K) (a := qp) (xs := vN (parts us)) (fun j σ H9 => ∃ v8, σ = [some (.ref p), some (.ref y), some (.int ((prodN ((parts us).take j) : Nat) : Int)), some (.int (0 + (i : Int))), some (.int (n : Int)), some (.ref tA), v6, some (.ref qp), v8] ∧ H9 = H8) ⟨v8, rfl, rfl⟩ (fun j σ H9 _ ⟨_, _, e⟩ => by rw [e]; exact SqL.of hqp) ?_ ?_⟩
        · rintro j x σ H9 hj ⟨v8, rfl, rfl⟩
          obtain ⟨z, hz, rfl⟩ := map_at hj
          obtain ⟨o, ho, rfl⟩ := map_at hz
          have hob := pb o (at_mem ho)
          rw [take_snoc ho, prod_snoc]
          exact ⟨_, rfl, _, rfl, _, _, rfl, rfl, .inr ⟨by omega, by omega⟩, some (.int (o : Int)), rfl, rfl⟩
        · rintro σ H9 ⟨v8, rfl, rfl⟩
          rw [List.length_map, List.length_map, take_all]
          have next : SameX p l H H9 := s9.trans (SameX.of s10)
          refine ⟨_, rfl, _, _, rfl, rfl, _, rfl, ?_⟩
          by_cases c1 : 0 < prodN (parts us)
          · rw [decide_eq_true (show (0 : Int) < ((prodN (parts us) : Nat) : Int) by omega)]
            refine iteT ⟨_, _, rfl, rfl, _, rfl, ?_⟩
            by_cases c2 : prodN (parts us) < 90
            · rw [decide_eq_true (show ((prodN (parts us) : Nat) : Int) < 90 by omega)]
              refine iteT ?_
              refine ⟨_, rfl, _, rfl, p, l, y, us, rfl, d10, hy10, by omega, fun r2 ms H10 s11 d11 hr2n hr2 hperm => ?_⟩
              have hqp11 := s11 _ _ g1 g2 hqp
              refine ⟨_, rfl, qp, _, rfl, .inl ⟨SqL.of hqp11, fun tl htl => ⟨by show 2 ≤ sizeLine; decide, fun t ht => ?_⟩⟩⟩
              have s12 : Same H10 (upd H10 tl (.tup (vN (parts us)))) := same_new htl
              have s13' : Same (upd H10 tl (.tup (vN (parts us)))) (upd (upd H10 tl (.tup (vN (parts us)))) t (.tup [.ref r2, .ref tl])) := same_new ht
              obtain ⟨r3, r4⟩ := d10.off hr2n
              have hr2H : H r2 = none := by
                cases e : H r2 with
                | none => rfl
                | some u =>
                  have := next r2 u r3 r4 e
                  rw [hr2n] at this
                  cases this
              refine k t r2 tl ms (parts us) _ ((next.trans s11).trans (SameX.of (s12.trans s13'))) (d11.mono (s12.trans s13')) hr2H r3 r4 upd_same (s13' _ _ (s12 _ _ hr2)) (s13' _ _ upd_same) ?_ ?_ c2
              · rw [hperm.length_eq]
                omega
              · unfold lotOf
                rw [parts_perm hperm, if_neg (zero_prod c1)]
            · rw [decide_eq_false (show ¬ ((prodN (parts us) : Nat) : Int) < 90 by omega)]
              exact iteF ⟨_, _, _, _, _, _, _, _, rfl, next, d10⟩
          · rw [decide_eq_false (show ¬ (0 : Int) < ((prodN (parts us) : Nat) : Int) by omega)]
            exact iteF ⟨_, rfl, iteF ⟨_, _, _, _, _, _, _, _, rfl, next, d10⟩⟩
    · rintro σ H' ⟨v1, v2, v3, v4, v5, v6, v7, v8, rfl, s1, d1⟩
      refine ⟨by show 2 ≤ sizeLine; decide, fun y hy => ⟨by show 1 ≤ sizeLine; decide, fun tl htl => ⟨by show 2 ≤ sizeLine; decide, fun t ht => ?_⟩⟩⟩
      have s2 : Same H' (upd H' y (.lst [V.int 13, V.int 12])) := same_new hy
      have s3 : Same (upd H' y (.lst [V.int 13, V.int 12])) (upd (upd H' y (.lst [V.int 13, V.int 12])) tl (.tup [V.int 12])) := same_new htl
      have s4 : Same (upd (upd H' y (.lst [V.int 13, V.int 12])) tl (.tup [V.int 12])) (upd (upd (upd H' y (.lst [V.int 13, V.int 12])) tl (.tup [V.int 12])) t (.tup [.ref y, .ref tl])) := same_new ht
      obtain ⟨y1, y2⟩ := d1.off hy
      have hyH : H y = none := by
        cases e : H y with
        | none => rfl
        | some u =>
          have := s1 y u y1 y2 e
          rw [hy] at this
          cases this
      exact k t y tl [13, 12] [12] _ (s1.trans (SameX.of ((s2.trans s3).trans s4))) (d1.mono ((s2.trans s3).trans s4)) hyH y1 y2 upd_same (s4 _ _ (s3 _ _ upd_same)) (s4 _ _ upd_same) (by decide) parts_small (by decide)
end
end K45
namespace K45
open PySem L2 M45
abbrev sLaw : Stmt := topS 39
/-! ### what the law compares -/
theorem lex_head : ∀ {G : List (List Nat)}, LexS G → [] ∈ G → ∃ r, G = [] :: r
  | [], _, h => by cases h
  | [] :: r, _, _ => ⟨r, rfl⟩
  | (a :: A) :: r, hs, h => by
    rcases (List.mem_cons.mp h) with e | h
    · cases e
    · have := (List.pairwise_cons.mp hs).1 [] h
      exact absurd this (by unfold lexN; rw [show HT.lexLt (iN []) (iN (a :: A)) = true from rfl]; exact fun z => by cases z)
theorem fit_nil (c : Int) : fit [] c = true := rfl
theorem left_snoc (L : List Nat) (ms : List Int) (b : Int) : left L (ms ++ [b]) = (left L ms).filter fun A => !fit A b := by
  unfold left
  rw [List.filter_filter]
  refine List.filter_congr fun A _ => ?_
  rw [List.any_append]
  simp [Bool.and_comm]
theorem left_step {L : List Nat} (hL : Lot L) (ms : List Int) (b : Int) : (left (stepS L b) ms).Perm ((left L ms).filter fun A => fit A b) := by
  have h := (coarse_step hL b).filter fun A => !(ms.any fun c => fit A c)
  refine h.trans ?_
  unfold left
  rw [List.filter_filter, List.filter_filter]
  refine List.Perm.of_eq (List.filter_congr fun A _ => ?_)
  rw [Bool.and_comm]
theorem split_left {L : List Nat} (hL : Lot L) (ms : List Int) (b : Int) : (left (stepS L b) ms ++ left L (ms ++ [b])).Perm (left L ms) := by
  rw [left_snoc]
  exact ((left_step hL ms b).append_right _).trans (List.filter_append_perm (fun A => fit A b) (left L ms))
/-- the heads of two sorted lists in a row -/
theorem both_heads {L : List Nat} {ms : List Int} {b : Int} {G1 G2 : List (List Nat)} (hL : Lot L) (h1 : G1.Perm (left (stepS L b) ms)) (s1 : LexS G1) (h2 : G2.Perm (left L (ms ++ [b]))) : (∀ A ∈ G1 ++ G2, A ≠ []) ∨ ∃ r, G1 ++ G2 = [] :: r := by
  have n2 : ∀ A ∈ G2, A ≠ [] := fun A hA e => by
    have hm := h2.mem_iff.mp hA
    rw [e, left_snoc] at hm
    have := (List.mem_filter.mp hm).2
    rw [fit_nil] at this
    cases this
  by_cases c : [] ∈ G1
  · obtain ⟨r, e⟩ := lex_head s1 c
    exact .inr ⟨r ++ G2, by rw [e]; rfl⟩
  · refine .inl fun A hA e => ?_
    subst e
    rcases List.mem_append.mp hA with h | h
    · exact c h
    · exact n2 _ h rfl
def dO : Option Nat → PyData
  | none => .none
  | some n => .int (n : Int)
def dTold (o : Option Nat) : PyData := .tuple [.str "told", dO o]
theorem dp_opt {K : PySem.W.Frag} {H : Hp} : ∀ o : Option Nat, Dp K H (optV o) (dO o)
  | none => .non
  | some n => .int n
theorem dp_told {K : PySem.W.Frag} {H : Hp} {t : Addr} {o : Option Nat} (h : H t = some (.tup [.str "told", optV o])) : Dp K H (.ref t) (dTold o) := .tup (SqT.of h) (.cons (.str _) (.cons (dp_opt o) .nil))
theorem dp_pair {K : PySem.W.Frag} {H : Hp} {t : Addr} {z : Str} {i : Int} (h : H t = some (.tup [.str z, .int i])) : Dp K H (.ref t) (.tuple [.str z, .int i]) := .tup (SqT.of h) (.cons (.str _) (.cons (.int _) .nil))
theorem lay_pair {z : Str} {i : Int} (h : PyData.canLayAll0 [.str z, .int i] = true) : SeqAt.shaped (.tuple [.str z, .int i]) = true ∧ PyData.eqv (.tuple [.str z, .int i]) (.tuple [.str z, .int i]) = true := by
  refine ⟨shp_tup h ?_, ?_⟩
  · show 0 ≤ 60
    decide
  · rw [PyData.eqv]
    exact SeqAt.eqvAll_refl _ h
theorem lay_r1 : SeqAt.shaped (.tuple [.str "refused", .int 1]) = true ∧ PyData.eqv (.tuple [.str "refused", .int 1]) (.tuple [.str "refused", .int 1]) = true := lay_pair (by decide +kernel)
theorem lay_r0 : SeqAt.shaped (.tuple [.str "refused", .int 0]) = true ∧ PyData.eqv (.tuple [.str "refused", .int 0]) (.tuple [.str "refused", .int 0]) = true := lay_pair (by decide +kernel)
theorem lay_q0 : SeqAt.shaped (.tuple [.str "question", .int 0]) = true ∧ PyData.eqv (.tuple [.str "question", .int 0]) (.tuple [.str "question", .int 0]) = true := lay_pair (by decide +kernel)
theorem lay_q1 : SeqAt.shaped (.tuple [.str "question", .int 1]) = true ∧ PyData.eqv (.tuple [.str "question", .int 1]) (.tuple [.str "question", .int 1]) = true := lay_pair (by decide +kernel)
theorem eqv_tup_nil (ds : List PyData) : PyData.eqv (.tuple ds) (.tuple []) = decide (ds = []) := by
  rw [PyData.eqv]
  cases ds with
  | nil => rfl
  | cons d ds => rfl
theorem told_facts : ∀ o : Option Nat, (∀ b, o = some b → b < 90) → (dTold o).showable = true ∧ (dTold o).hasDict = false ∧ (dTold o).depth ≤ 60 ∧ (dTold o).shown.length ≤ sizeLine := by
  have all : ∀ b ∈ List.range 90, (dTold (some b)).showable = true ∧ (dTold (some b)).hasDict = false ∧ (dTold (some b)).depth ≤ 60 ∧ (dTold (some b)).shown.length ≤ 1000 := by decide +kernel
  have non : (dTold none).showable = true ∧ (dTold none).hasDict = false ∧ (dTold none).depth ≤ 60 ∧ (dTold none).shown.length ≤ 1000 := by decide +kernel
  intro o h
  cases o with
  | none => exact ⟨non.1, non.2.1, non.2.2.1, sz (by have := non.2.2.2; omega)⟩
  | some b =>
    obtain ⟨a1, a2, a3, a4⟩ := all b (List.mem_range.mpr (h b rfl))
    exact ⟨a1, a2, a3, sz (by omega)⟩
theorem zero_parts : ∀ (ns : List Int) (f : List Nat), (∀ c ∈ ns, c = 0 ∨ c = 1) → 0 ∈ f → 0 ∈ ns.foldl stepS f
  | [], f, _, h => h
  | c :: ns, f, hc, h => by
    refine zero_parts ns (stepS f c) (fun d hd => hc d (List.mem_cons_of_mem _ hd)) ?_
    unfold stepS step1 pend
    rw [(srt_perm _).mem_iff, List.mem_filter, List.mem_flatMap]
    refine ⟨⟨0, h, ?_⟩, rfl⟩
    unfold ends
    rcases hc c List.mem_cons_self with e | e
    · subst e
      exact List.mem_cons_self
    · subst e
      exact List.mem_cons_of_mem _ List.mem_cons_self
theorem none_lot {ns : List Int} (h : ∀ c ∈ ns, c = 0 ∨ c = 1) : lotOf ns = none := by
  unfold lotOf
  exact if_pos (zero_parts ns [0] h List.mem_cons_self)
theorem seq_with {t u : TS} {D : Ends} {σ : L2.St} {H : Hp} (M : L2.St → Hp → Prop) (h2 : ∀ σ' H', M σ' H' → u D σ' H') (h1 : (∀ σ' H', M σ' H' → u D σ' H') → tSeq t u D σ H) : tSeq t u D σ H := h1 h2
end K45
namespace K45
open PySem L2 M45
abbrev NLw : List Str := ["_law_script", "_law_deal", "_law_yes", "_law_lot", "_law_whole", "_law_q", "_law_no", "_law_due", "_law_told", "_law_best_here", "_law_more", "_law_less", "_law_none", "_law_bad", "_law_again", "_law_n", "_law_one"]
theorem scLaw : FnScope NLw ["_law_script"] (defScope sLaw) := ⟨rfl, rfl, rfl, by decide +kernel, rfl, by decide +kernel, by decide +kernel⟩
abbrev scIn4 : Scope := { kind := .function, names := [(".0", .local), ("_law_one", .cell), ("_law_no", .cell)], isGenerator := false, isCoroutine := false }
/-- what stands when the law asks -/
structure Sit (H : Hp) (p l y tl no : Addr) (ns ms : List Int) (L : List Nat) : Prop where
  deal : Deal H p l
  y1 : y ≠ p
  y2 : y ≠ l
  n1 : no ≠ p
  n2 : no ≠ l
  yes : H y = some (.lst (vI ns))
  lot : H tl = some (.tup (vN L))
  nos : H no = some (.lst (vI ms))
  nsl : ns.length ≤ 6
  msl : ms.length ≤ 10
  lo : lotOf ns = some L
  sm : prodN L < 90
theorem Sit.mono {H H' : Hp} {p l y tl no : Addr} {ns ms : List Int} {L : List Nat} (i : Sit H p l y tl no ns ms L) (s : Same H H') : Sit H' p l y tl no ns ms L :=
  ⟨i.deal.mono s, i.y1, i.y2, i.n1, i.n2, s _ _ i.yes, s _ _ i.lot, s _ _ i.nos, i.nsl, i.msl, i.lo, i.sm⟩
theorem Sit.step {H H' : Hp} {p l y tl no : Addr} {ns ms : List Int} {L : List Nat} (i : Sit H p l y tl no ns ms L) (s : SameX p l H H') (d : Deal H' p l) : Sit H' p l y tl no ns ms L :=
  ⟨d, i.y1, i.y2, i.n1, i.n2, s _ _ i.y1 i.y2 i.yes, s _ _ (i.deal.offT i.lot).1 (i.deal.offT i.lot).2 i.lot, s _ _ i.n1 i.n2 i.nos, i.nsl, i.msl, i.lo, i.sm⟩
theorem to_next {i : Nat} {v : V} {σ : L2.St} {H : Hp} {N : L2.St → Hp → Prop} (h : N (σ.set i (some v)) H) : gName i v σ H N := h
theorem lot_len : ∀ {L : List Nat}, (∀ m ∈ L, 3 ≤ m) → L.length ≤ prodN L
  | [], _ => Nat.zero_le _
  | m :: L, h => by
    have h1 := lot_len fun x hx => h x (List.mem_cons_of_mem _ hx)
    have h2 := prod_pos fun x hx => h x (List.mem_cons_of_mem _ hx)
    have h4 := h m List.mem_cons_self
    have h5 : 3 * prodN L ≤ m * prodN L := Nat.mul_le_mul_right _ h4
    show L.length + 1 ≤ m * prodN L
    omega
theorem none_any (ms : List Int) (A : List Nat) : decide (ms.filter (fun c => fit A c) = []) = !(ms.any fun c => fit A c) := by
  refine Bool.eq_iff_iff.mpr ?_
  rw [decide_eq_true_eq, Bool.not_eq_true', List.filter_eq_nil_iff]
  constructor
  · intro h
    exact Bool.eq_false_iff.mpr fun z => let ⟨c, hc, e⟩ := List.any_eq_true.mp z; h c hc e
  · intro h c hc e
    have := List.any_eq_true.mpr ⟨c, hc, e⟩
    rw [h] at this
    cases this
section
variable {base : Heap} {P : Program} {w : World} {K : PySem.W.Frag} {mg : Str → Option Value}
theorem law_runs {CQ CR f : Addr} {cdv : Value} {A : Around} {outer : List Env} {s : Shared} {H : Hp} {a : Addr} {ns0 : List Int} (T : Nms mg)
    (C1 : Callee P w K mg base CX0 1 "_law_draw" ["_law_script", "_law_salt"] (spDraw K)) (C2 : Callee P w K mg base CX0 3 "_law_small" ["_law_deal"] spSmall)
    (C3 : Callee P w K mg base CX0 1 "_law_any" ["_law_deal", "_law_bound"] spAny) (C4 : Callee P w K mg base CX0 1 "_law_fits" ["_law_lot", "_law_n"] spLeaves)
    (C5 : Callee P w K mg base CX0 2 "_law_coarser" ["_law_lot"] spCoL) (C6 : Callee P w K mg base CX0 7 "_law_asked" ["_law_yes", "_law_no"] spAsk)
    (C7 : Callee P w K mg base CX0 2 "_law_best" ["_law_lots", "_law_whole"] spBestL) (C8 : Callee P w K mg base (L2.CX P w) 5 "possible_lots" ["yes", "no"] (spPoss CQ CR))
    (C9 : Callee P w K mg base CX0 2 "_law_of" ["_law_deal", "_law_some"] spOf)
    (hr : Room 7 (A.deeper (PyProof.Rows.envOfC "law" (defScope sLaw) s.heap.objs.size f cdv))) (hg : (A.deeper (PyProof.Rows.envOfC "law" (defScope sLaw) s.heap.objs.size f cdv)).guards = some [])
    (ha : SqL K H a (vI ns0)) :
    ∃ t, PSs (cxOf CX0 P w K mg base NLw "law" (defScope sLaw) f cdv A outer s H E0).nox (defBody sLaw) t ∧ t { nx := fun _ H' => (fun v _ => v = .bl true : VK) .non H', rt := fun v _ => v = .bl true } (start NLw [.ref a]) H := by
  obtain ⟨f1, fd1, G1, b1, m1, k1⟩ := C1.ex
  obtain ⟨f2, fd2, G2, b2, m2, k2⟩ := C2.ex
  obtain ⟨f3, fd3, G3, b3, m3, k3⟩ := C3.ex
  obtain ⟨f4, fd4, G4, b4, m4, k4⟩ := C4.ex
  obtain ⟨f5, fd5, G5, b5, m5, k5⟩ := C5.ex
  obtain ⟨f6, fd6, G6, b6, m6, k6⟩ := C6.ex
  obtain ⟨f7, fd7, G7, b7, m7, k7⟩ := C7.ex
  obtain ⟨f8, fd8, G8, b8, m8, k8⟩ := C8.ex
  obtain ⟨f9, fd9, G9, b9, m9, k9⟩ := C9.ex
  have hr1 := hr.mono (show 1 ≤ 7 by decide)
  have hr2 := hr.mono (show 2 ≤ 7 by decide)
  have hr3 := hr.mono (show 3 ≤ 7 by decide)
  have hr5 := hr.mono (show 5 ≤ 7 by decide)
  refine ⟨_, pss_cons (ps_set (i := 1) scLaw.nd rfl (.inr rfl) (pe_call G1 hr1 (by rfl) m1 k1 b1 .nil pass0 (pa_cons (pv 0) (pa_cons pe_int pa_nil))))
    (pss_cons (ps_asg (pe_call G2 hr3 (by rfl) m2 k2 b2 .nil pass0 (pa_cons (pv 1) pa_nil)) (pg_tup (by rfl) (pgs_cons (pg_name (i := 2) scLaw.nd rfl (.inl rfl)) (pgs_cons (pg_name (i := 3) scLaw.nd rfl (.inr rfl)) pgs_nil))))
    (pss_cons (ps_set (i := 4) scLaw.nd rfl (.inl rfl) pe_int)
    (pss_cons (ps_for PassesOwn.never rfl (pi_tup (pv 3)) (pg_name (i := 5) scLaw.nd rfl (.inl rfl)) (pss_one (ps_set (i := 4) scLaw.nd rfl (.inl rfl) (pe_op op_mul (pv 4) (pv 5)))))
    (pss_cons (ps_set (i := 6) scLaw.nd rfl (.inr rfl) (pe_lc (own := [("_law_again", 14)]) (g := gName 14) (tt := tYes) rfl scLaw.nd (pi_range1 (by rfl) T.range (pa_cons (pe_call G3 hr1 (by rfl) m3 k3 b3 .nil pass0 (pa_cons (pv 1) (pa_cons pe_int pa_nil))) pa_nil)) (blkOk_by (N := NLw) (sc := defScope sLaw) (by decide +kernel))
        (fun _ _ _ _ _ => pg_name (i := 14) scLaw.nd rfl (Or.inl rfl)) (fun _ _ _ _ _ => pts_nil) (fun _ _ _ _ _ => pe_op op_sub (pe_call G3 hr1 (by rfl) m3 k3 b3 .nil pass0 (pa_cons (pv 1) (pa_cons pe_int pa_nil))) pe_int)))
    (pss_cons (ps_if (pt_cmpR op_gt (pe_call G3 hr1 (by rfl) m3 k3 b3 .nil pass0 (pa_cons (pv 1) (pa_cons pe_int pa_nil))) pe_int (nomark _))
        (pss_one (ps_set (i := 6) scLaw.nd rfl (.inr rfl) (pe_lc (own := [("_law_n", 15)]) (g := gName 15) (tt := tNot (tB (tCall spLeaves [] E0 (tCons (tVar 3) (tCons (tVar 15) tNil))))) rfl scLaw.nd (pi_list (pv 6)) (blkOk_by (N := NLw) (sc := defScope sLaw) (by decide +kernel))
          (fun _ _ _ _ _ => pg_name (i := 15) scLaw.nd rfl (Or.inl rfl)) (fun _ _ _ _ _ => pts_one (pt_not (pt_val (pe_call G4 hr1 (by rfl) m4 k4 b4 .nil pass0 (pa_cons (pv 3) (pa_cons (pv 15) pa_nil)))))) (fun _ _ _ _ _ => pv 15)))) pss_nil)
    (pss_cons (ps_setLc (i := 7) (own := [("_law_one", 16)]) (g := gName 16) (tt := tTest (tOp (rEqD K) (tLc (iList K (tVar 6)) (gName 15) (tTest (tCall spLeaves [] E0 (tCons (tVar 16) (tCons (tVar 15) tNil)))) (tVar 15) [15]) (tLst tNil))) rfl scLaw.nd rfl rfl (sw_true rfl rfl rfl rfl)
        (pi_list (pe_call G5 hr2 (by rfl) m5 k5 b5 .nil pass0 (pa_cons (pv 3) pa_nil))) (blkOk_by (N := NLw) (sc := defScope sLaw) (by decide +kernel))
        (fun _ _ _ _ _ => pg_name (i := 16) scLaw.nd rfl (Or.inr rfl))
        (fun _ _ _ _ _ => pts_one (pt_cmpR (op_eqD hr.units) (pe_lc (own := [("_law_n", 15)]) (g := gName 15) rfl scLaw.nd (pi_list (pv 6)) (blkOk_by (N := NLw) (sc := scIn4) (by decide +kernel))
            (fun _ _ _ _ _ => pg_name (i := 15) scLaw.nd rfl (Or.inl rfl)) (fun _ _ _ _ _ => pts_one (pt_val (pe_call G4 hr1 (by rfl) m4 k4 b4 .nil pass0 (pa_cons (pv 16) (pa_cons (pv 15) pa_nil))))) (fun _ _ _ _ _ => pv 15)) (pe_lst pa_nil) (nomark _)))
        (fun _ _ _ _ _ => pv 16))
    (pss_cons (ps_set (i := 8) scLaw.nd rfl (.inl rfl) (pe_call G6 hr (by rfl) m6 k6 b6 .nil pass0 (pa_cons (pv 2) (pa_cons (pv 6) pa_nil))))
    (pss_cons (ps_if (pt_cmpR (op_eqD hr.units) (pv 7) (pe_lst pa_nil) (nomark _))
        (pss_one (ps_if (pt_cmpR (op_neD hr.units) (pv 8) (pe_tup (pa_cons pe_str (pa_cons pe_int pa_nil))) (nomark _)) (pss_one (ps_ret pe_bl)) pss_nil))
        (pss_cons (ps_set (i := 9) scLaw.nd rfl (.inl rfl) (pe_call G7 hr2 (by rfl) m7 k7 b7 .nil pass0 (pa_cons (pv 7) (pa_cons (pv 4) pa_nil))))
        (pss_cons (ps_if (PW.pt (pw_or (pt_cmpR op_ne (pe_callB (cr_repr hg hr.units) (by rfl) T.repr bRepr (pa_cons (pv 8) pa_nil)) (pe_callB (cr_repr hg hr.units) (by rfl) T.repr bRepr (pa_cons (pe_tup (pa_cons pe_str (pa_cons (pv 9) pa_nil))) pa_nil)) (nomark _))
            (pw_or (pt_cmpR op_ne (pe_callB (cr_repr hg hr.units) (by rfl) T.repr bRepr (pa_cons (pe_call G6 hr (by rfl) m6 k6 b6 .nil pass0 (pa_cons (pe_callTy call_tuple_of (by rfl) T.tuple bTuple (pa_cons (pv 2) pa_nil)) (pa_cons (pe_callTy call_tuple_of (by rfl) T.tuple bTuple (pa_cons (pv 6) pa_nil)) pa_nil))) pa_nil))
                (pe_callB (cr_repr hg hr.units) (by rfl) T.repr bRepr (pa_cons (pv 8) pa_nil)) (nomark _))
              (pw_or1 (pt_cmpR op_ne (pe_cmpR op_isN (pv 9) pe_non (nomark _)) (pe_cmpR op_eq (pe_callB call_len_seq (by rfl) T.len bLen (pa_cons (pv 7) pa_nil)) pe_int (nomark _)) (nomark _))))))
            (pss_one (ps_ret pe_bl)) pss_nil)
        (pss_one (ps_if (pt_cmpR op_notN (pv 9) pe_non (nomark _))
          (pss_cons (ps_par (i := 10) (j := 11) rfl scLaw.nd rfl rfl (by decide) rfl rfl
              (pa_cons (pe_call G8 hr5 (by rfl) m8 k8 b8 .nil passL (pa_cons (pe_op op_cat (pv 2) (pe_lst (pa_cons (pv 9) pa_nil))) (pa_cons (pv 6) pa_nil)))
              (pa_cons (pe_call G8 hr5 (by rfl) m8 k8 b8 .nil passL (pa_cons (pv 2) (pa_cons (pe_op op_cat (pv 6) (pe_lst (pa_cons (pv 9) pa_nil))) pa_nil))) pa_nil)) (by rfl))
          (pss_one (ps_if (PW.pt (pw_or (pt_cmpR (op_eqD hr.units) (pv 10) (pe_tup pa_nil) (nomark _)) (pw_or (pt_cmpR (op_eqD hr.units) (pv 11) (pe_tup pa_nil) (nomark _))
              (pw_or1 (pt_cmpR (op_neD hr.units) (pe_callB (cr_sortTT hr.units) (by rfl) T.sorted bSorted (pa_cons (pe_op op_catA (pv 10) (pv 11)) pa_nil)) (pv 7) (nomark _)))))) (pss_one (ps_ret pe_bl)) pss_nil))) pss_nil)))))
    (pss_cons (ps_setLc (i := 12) (own := [("_law_again", 14)]) (g := gName 14) (tt := tYes) rfl scLaw.nd rfl rfl (sw_true rfl rfl rfl rfl) (pi_range1 (by rfl) T.range (pa_cons (pe_call G3 hr1 (by rfl) m3 k3 b3 .nil pass0 (pa_cons (pv 1) (pa_cons pe_int pa_nil))) pa_nil)) (blkOk_by (N := NLw) (sc := defScope sLaw) (by decide +kernel))
        (fun _ _ _ _ _ => pg_name (i := 14) scLaw.nd rfl (Or.inl rfl)) (fun _ _ _ _ _ => pts_nil) (fun _ _ _ _ _ => pe_call G3 hr1 (by rfl) m3 k3 b3 .nil pass0 (pa_cons (pv 1) (pa_cons pe_int pa_nil))))
    (pss_cons (ps_if (PW.pt (pw_or (pt_cmpR (op_neD hr.units) (pe_call G6 hr (by rfl) m6 k6 b6 .nil pass0 (pa_cons (pv 12) (pa_cons (pv 6) pa_nil))) (pe_tup (pa_cons pe_str (pa_cons pe_int pa_nil))) (nomark _))
        (pw_or1 (pt_cmpR (op_neD hr.units) (pe_call G6 hr (by rfl) m6 k6 b6 .nil pass0 (pa_cons (pv 12) (pa_cons (pe_call G9 hr2 (by rfl) m9 k9 b9 .nil pass0 (pa_cons (pv 1) (pa_cons (pe_lst (pa_cons (pe_lst (pa_cons pe_int pa_nil)) (pa_cons (pe_lst (pa_cons pe_int (pa_cons pe_int pa_nil))) pa_nil))) pa_nil))) pa_nil)))
          (pe_tup (pa_cons pe_str (pa_cons pe_int pa_nil))) (nomark _))))) (pss_one (ps_ret pe_bl)) pss_nil)
    (pss_cons (ps_set (i := 13) scLaw.nd rfl (.inl rfl) (pe_call G9 hr2 (by rfl) m9 k9 b9 .nil pass0 (pa_cons (pv 1) (pa_cons (pe_lst (pa_cons pe_non (pa_cons (pe_tup (pa_cons pe_bl pa_nil)) (pa_cons (pe_lst (pa_cons pe_str pa_nil)) (pa_cons pe_dnewK (pa_cons pe_str pa_nil)))))) pa_nil))))
    (pss_one (ps_ret (pe_and (pe_cmpR (op_eqD hr.units) (pe_call G6 hr (by rfl) m6 k6 b6 .nil pass0 (pa_cons (pv 13) (pa_cons (pe_call G9 hr2 (by rfl) m9 k9 b9 .nil pass0 (pa_cons (pv 1) (pa_cons (pe_lst (pa_cons (pv 6) (pa_cons pe_non pa_nil))) pa_nil))) pa_nil))) (pe_tup (pa_cons pe_str (pa_cons pe_int pa_nil))) (nomark _))
        (pe_one (pe_cmpR (op_eqD hr.units) (pe_call G6 hr (by rfl) m6 k6 b6 .nil pass0 (pa_cons (pv 2) (pa_cons (pv 13) pa_nil))) (pe_tup (pa_cons pe_str (pa_cons pe_int pa_nil))) (nomark _))))))))))))))))), ?_⟩
  refine ⟨_, rfl, a, ns0, rfl, ha, fun p l H1 s1 hp1 hl1 d1 => ?_⟩
  refine ⟨_, rfl, p, l, rfl, d1, fun t y tl ns L H2 s2 d2 hyn y1 y2 ht hy htl hnl hlo hW => ?_⟩
  refine ⟨t, _, rfl, SqT.of ht, rfl, _, _, rfl, _, _, rfl, rfl, ?_⟩
  obtain ⟨ep, hLot⟩ := lotOf_some hlo
  have hlL : L.length ≤ 1000 := by have := lot_len hLot.big; omega
  have hL0 : ∀ m ∈ L, 0 < m := fun m hm => by have := hLot.big m hm; omega
  refine ⟨_, rfl, tl, rfl, ⟨_, SqT.of htl⟩, for_tup (K := K) (a := tl) (xs := vN L) (fun i σ H' => ∃ v, σ = [some (.ref a), some (.ref p), some (.ref y), some (.ref tl), some (.int ((prodN (L.take i) : Nat) : Int)), v, none, none, none, none, none, none, none, none, none, none, none] ∧ H' = H2) ⟨none, rfl, rfl⟩ (fun i σ H' _ ⟨_, _, e⟩ => by rw [e]; exact SqT.of htl) ?_ ?_⟩
  · rintro i x σ H' hi ⟨v, rfl, rfl⟩
    obtain ⟨z, hz, rfl⟩ := map_at hi
    obtain ⟨m, hm, rfl⟩ := map_at hz
    have h1 := prod_le_mem hLot.big m (at_mem hm)
    rw [take_snoc hm, prod_snoc]
    exact ⟨_, rfl, _, rfl, _, _, rfl, rfl, .inr ⟨by omega, by omega⟩, some (.int (m : Int)), rfl, rfl⟩
  rintro σ H' ⟨v5, rfl, rfl⟩
  rw [List.length_map, List.length_map, take_all]
  -- what is told: no
  refine ⟨_, rfl, p, l, 3, rfl, d2, by decide, by decide, fun r H3 s3 d3 hr3 => ⟨_, rfl, by omega, by omega, fun D hD => ?_⟩⟩
  have er : ((r : Nat) : Int).toNat = r := by omega
  rw [er]
  obtain ⟨n1, n2⟩ := d3.off hD
  have sD : Same H3 (upd H3 D (.lst [])) := same_new hD
  refine loopR (lo := 0) (n := r) (fun j H4 => ∃ ms, ms.length ≤ j ∧ SameX p l H3 H4 ∧ Deal H4 p l ∧ H4 D = some (.lst (vI ms))) ⟨[], Nat.le_refl _, SameX.of sD, d3.mono sD, upd_same⟩ ?_ ?_
  · rintro j H4 hj ⟨ms, hms, s4, d4, hD4⟩
    refine ⟨rfl, ?_⟩
    refine ⟨_, rfl, p, l, 41, rfl, d4, by decide, by decide, fun q H5 s5 d5 hq => ⟨_, _, rfl, rfl, ?_⟩⟩
    have hD5 := s5 _ _ n1 n2 hD4
    refine ⟨_, hD5, szl (by rw [List.length_map]; omega), ms ++ [(q : Int) - 10], by rw [List.length_append]; show _ + 1 ≤ _; omega, (s4.trans s5).mut hD, d5.mut n1 n2, ?_⟩
    rw [upd_same]
    unfold vI
    rw [List.map_append]
    rfl
  rintro H4 ⟨ms, hms, s4, d4, hD4⟩
  have hy4 := s4 _ _ y1 y2 (s3 _ _ y1 y2 hy)
  obtain ⟨o1, o2⟩ := d2.offT htl
  have htl4 := s4 _ _ o1 o2 (s3 _ _ o1 o2 htl)
  have sit4 : Sit H4 p l y tl D ns ms L := ⟨d4, y1, y2, n1, n2, hy4, htl4, hD4, hnl, by omega, hlo, hW⟩
  refine to_next ?_
  dsimp only
  refine seq_with (t := tIfS _ _ _) (fun σ' H' => ∃ no ms, σ' = [some (.ref a), some (.ref p), some (.ref y), some (.ref tl), some (.int ((prodN L : Nat) : Int)), v5, some (.ref no), none, none, none, none, none, none, none, none, none, none] ∧ Sit H' p l y tl no ns ms L) ?tail1 fun tail1 => ?_
  case tail1 =>
    clear sit4 htl4 hy4 hD4 s4 d4 hms ms H4 n1 n2 sD hD D er hr3 s3 d3 H3 r
    rintro σ' H3 ⟨no, ms, rfl, i3⟩
    refine ⟨_, rfl, tl, L, rfl, i3.lot, hLot, hW, fun qC xs G H4 s4 hqC hxs hGp hGs => ?_⟩
    have i4 := i3.mono s4
    have hlx := hxs.len
    have hGl : G.length ≤ 8100 := by
      rw [hGp.length_eq]
      exact coarse_len hLot hW
    have hGA : ∀ A ∈ G, (∀ m ∈ A, 0 < m) ∧ A.length ≤ 1000 := fun A hA => by
      have hAm := hGp.mem_iff.mp hA
      exact ⟨fun m hm => by have := coarse_big hLot hAm m hm; omega, by have := coarse_alen (divs_pow hLot hW) hAm; omega⟩
    refine ⟨qC, rfl, ⟨_, SqL.of hqC⟩, fun D hD => loopL (K := K) (a := qC) (xs := xs) (fun j H5 => ∃ out, Cw H4 D out H5 ∧ TsAt H5 out ((G.take j).filter fun A => !(ms.any fun c => fit A c))) ⟨[], Cw.start hD, .nil⟩ (fun j H5 _ ⟨_, cw, _⟩ => SqL.of (cw.same _ _ hqC)) ?_ ?_⟩
    · rintro j x H5 hj ⟨out, cw, ho⟩
      obtain ⟨Aj, hAj, hT⟩ := hxs.get hj
      obtain ⟨h0, h1⟩ := hGA _ (at_mem hAj)
      rw [take_snoc hAj, List.filter_append]
      have hsm : out.length < 100000 := by
        rw [ho.len]
        have := List.length_filter_le (fun A => !(ms.any fun c => fit A c)) (G.take j)
        rw [List.length_take] at this
        omega
      refine ⟨rfl, ?_⟩
      obtain ⟨tA, rfl, htA⟩ := hT.mono cw.same
      have hn5 := cw.same _ _ i4.nos
      refine ⟨_, rfl, no, rfl, ⟨_, SqL.of hn5⟩, fun D2 hD2 => loopL (K := K) (a := no) (xs := vI ms) (fun n H6 => Cw H5 D2 (vI ((ms.take n).filter fun c => fit Aj c)) H6) (Cw.start hD2) (fun n H6 _ c6 => SqL.of (c6.same _ _ hn5)) ?_ ?_⟩
      · intro n x' H6 hn c6
        obtain ⟨c, hc, rfl⟩ := map_at hn
        have hnl := at_lt hc
        have hsm2 : (vI ((ms.take n).filter fun c => fit Aj c)).length < 100000 := by
          have := List.length_filter_le (fun c => fit Aj c) (ms.take n)
          rw [List.length_take] at this
          rw [List.length_map]
          have := i3.msl
          omega
        rw [take_snoc hc, List.filter_append]
        refine ⟨rfl, ?_⟩
        refine ⟨_, rfl, _, rfl, tA, Aj, c, rfl, c6.same _ _ htA, h0, h1, fun H7 s7 => ⟨_, rfl, ?_⟩⟩
        cases hf : fit Aj c with
        | true =>
          refine iteT ⟨_, rfl, ?_⟩
          exact c6.put s7 hsm2 (by simp [hf])
        | false => exact iteF (c6.skip s7 (by simp [hf]))
      · intro H6 c6
        rw [List.length_map, take_all] at c6
        refine ⟨Nat.zero_le _, fun e he => ?_⟩
        have s7 : Same H6 (upd H6 e (.lst [])) := same_new he
        refine ⟨_, _, dp_listI (s7 _ _ c6.here), dp_listI (ns := []) upd_same, shp_ints _, shp_ints _, _, rfl, ?_⟩
        rw [eqv_list_ints, none_any]
        have s8 := c6.same.trans s7
        generalize upd H6 e (.lst []) = H7 at s8 ⊢
        cases hg : ms.any fun c => fit Aj c with
        | false =>
          refine iteT ⟨_, rfl, ?_⟩
          have hfil : [Aj].filter (fun A => !(ms.any fun c => fit A c)) = [Aj] := by simp [hg]
          rw [hfil]
          obtain ⟨acc, ha, hz, c9⟩ := cw.put (y := .ref tA) (out' := out ++ [.ref tA]) s8 hsm rfl
          exact ⟨acc, ha, hz, _, c9, TsAt.app ((ho.mono s8).put ha) (TsAt.one (TupN.put ⟨tA, rfl, s8 _ _ htA⟩ ha))⟩
        | true =>
          refine iteF ?_
          have hfil : [Aj].filter (fun A => !(ms.any fun c => fit A c)) = [] := by simp [hg]
          rw [hfil, List.append_nil]
          exact ⟨out, cw.skip s8 rfl, ho.mono s8⟩
    rintro H5 ⟨out, cw, ho⟩
    rw [hlx, take_all] at ho
    have i5 := i4.mono cw.same
    have hD5 := cw.here
    have hdp : (G.filter fun A => !(ms.any fun c => fit A c)).Perm (left L ms) := hGp.filter _
    have hds : LexS (G.filter fun A => !(ms.any fun c => fit A c)) := hGs.sublist List.filter_sublist
    have hdl : (G.filter fun A => !(ms.any fun c => fit A c)).length ≤ 8100 := Nat.le_trans (List.length_filter_le _ _) hGl
    have hdA : ∀ A ∈ G.filter fun A => !(ms.any fun c => fit A c), (∀ m ∈ A, 0 < m) ∧ A.length ≤ 1000 := fun A hA => hGA A (List.mem_filter.mp hA).1
    generalize (G.filter fun A => !(ms.any fun c => fit A c)) = due at ho hdp hds hdl hdA
    clear hGA hGl hlx hGp hGs hqC hxs
    refine to_next ?_
    dsimp only
    refine seq_with (t := tAsg _ _) (fun σ' H' => ∃ t8, σ' = [some (.ref a), some (.ref p), some (.ref y), some (.ref tl), some (.int ((prodN L : Nat) : Int)), v5, some (.ref no), some (.ref D), some (.ref t8), none, none, none, none, none, none, none, none] ∧ Sit H' p l y tl no ns ms L ∧ H' D = some (.lst out) ∧ TsAt H' out due ∧
      ((due = [] ∧ H' t8 = some (.tup [.str "refused", .int 1])) ∨ (due ≠ [] ∧ H' t8 = some (.tup [.str "told", bestV due (prodN L)])))) ?tail2 fun tail2 => ?_
    case tail2 =>
      clear i5 i4 hD5 cw ho hD s4 H5 H4 i3
      rintro σ' H6 ⟨t8, rfl, i6, hD6, ho6, hcase⟩
      refine seq_with (t := tIfS _ _ _) (fun σ' H' => ∃ v9 v10 v11, σ' = [some (.ref a), some (.ref p), some (.ref y), some (.ref tl), some (.int ((prodN L : Nat) : Int)), v5, some (.ref no), some (.ref D), some (.ref t8), v9, v10, v11, none, none, none, none, none] ∧ Sit H' p l y tl no ns ms L) ?tail3 fun tail3 => ?_
      case tail3 =>
        clear hcase ho6 hD6 i6 H6
        rintro σ' H6 ⟨v9, v10, v11, rfl, i6⟩
        refine ⟨_, rfl, p, l, 3, rfl, i6.deal, by decide, by decide, fun r H7 s7 d7 hr7 => ⟨_, rfl, by omega, by omega, fun D2 hD2 => ?_⟩⟩
        have er : ((r : Nat) : Int).toNat = r := by omega
        rw [er]
        have i7 := i6.step s7 d7
        obtain ⟨n1, n2⟩ := d7.off hD2
        have sD : Same H7 (upd H7 D2 (.lst [])) := same_new hD2
        refine loopR (lo := 0) (n := r) (fun j H8 => ∃ zs, zs.length ≤ j ∧ (∀ c ∈ zs, c = 0 ∨ c = 1) ∧ SameX p l H7 H8 ∧ Deal H8 p l ∧ H8 D2 = some (.lst (vI zs))) ⟨[], Nat.le_refl _, (fun c hc => by cases hc), SameX.of sD, d7.mono sD, upd_same⟩ ?_ ?_
        · rintro j H8 hj ⟨zs, hzl, hz01, s8, d8, hD8⟩
          refine ⟨rfl, ?_⟩
          refine ⟨_, rfl, p, l, 2, rfl, d8, by decide, by decide, fun q H9 s9 d9 hq => ?_⟩
          have hD9 := s9 _ _ n1 n2 hD8
          refine ⟨_, hD9, szl (by rw [List.length_map]; omega), zs ++ [(q : Int)], by rw [List.length_append]; show _ + 1 ≤ _; omega, (fun c hc => ?_), (s8.trans s9).mut hD2, d9.mut n1 n2, ?_⟩
          · rcases List.mem_append.mp hc with hc | hc
            · exact hz01 c hc
            · have := List.mem_singleton.mp hc
              omega
          · rw [upd_same]
            unfold vI
            rw [List.map_append]
            rfl
        rintro H8 ⟨zs, hzl, hz01, s8, d8, hD8⟩
        have i8 := i7.step s8 d8
        have hzn := none_lot hz01
        have l6 := i8.nsl
        have l10 := i8.msl
        have hzl2 : zs.length ≤ 12 := by omega
        -- no lot: refused
        refine ⟨_, rfl, _, rfl, .ref D2, .ref no, rfl, .inr (.inr (.inr ⟨zs, ms, .lst hD8, .lst i8.nos, hzl2, by omega, hzn, fun t1 H9 s9 h9 => ?_⟩))⟩
        refine ⟨by show 2 ≤ sizeLine; decide, fun u1 hu1 => ?_⟩
        have s10 : Same H9 (upd H9 u1 (.tup [.str "refused", .int 0])) := same_new hu1
        refine ⟨_, _, dp_pair (s10 _ _ h9), dp_pair upd_same, lay_r0.1, lay_r0.1, _, rfl, ?_⟩
        rw [lay_r0.2]
        refine iteF ?_
        have s810 := s9.trans s10
        generalize upd H9 u1 (.tup [.str "refused", .int 0]) = H10 at s810 ⊢
        have i10 := i8.mono s810
        have hD10 := s810 _ _ hD8
        refine ⟨_, rfl, _, rfl, by show 1 ≤ sizeLine; decide, fun q0 hq0 => ⟨by show 2 ≤ sizeLine; decide, fun q1 hq1 => ⟨by show 2 ≤ sizeLine; decide, fun q2 hq2 => ?_⟩⟩⟩
        have s11 : Same H10 (upd H10 q0 (.lst [V.int 0])) := same_new hq0
        have s12 : Same (upd H10 q0 (.lst [V.int 0])) (upd (upd H10 q0 (.lst [V.int 0])) q1 (.lst [V.int 1, V.int 5])) := same_new hq1
        have s13 : Same (upd (upd H10 q0 (.lst [V.int 0])) q1 (.lst [V.int 1, V.int 5])) (upd (upd (upd H10 q0 (.lst [V.int 0])) q1 (.lst [V.int 1, V.int 5])) q2 (.lst [.ref q0, .ref q1])) := same_new hq2
        have z0 := s13 _ _ (s12 _ _ (upd_same (H := H10) (a := q0) (o := .lst [V.int 0])))
        have z1 := s13 _ _ (upd_same (H := upd H10 q0 (.lst [V.int 0])) (a := q1) (o := .lst [V.int 1, V.int 5]))
        have z2 := upd_same (H := upd (upd H10 q0 (.lst [V.int 0])) q1 (.lst [V.int 1, V.int 5])) (a := q2) (o := .lst [.ref q0, .ref q1])
        have s1013 := (s11.trans s12).trans s13
        have o0 := i10.deal.off hq0
        have o1 := (i10.deal.mono s11).off hq1
        have o2 := (i10.deal.mono (s11.trans s12)).off hq2
        generalize upd (upd (upd H10 q0 (.lst [V.int 0])) q1 (.lst [V.int 1, V.int 5])) q2 (.lst [.ref q0, .ref q1]) = H13 at s1013 z0 z1 z2 ⊢
        have i13 := i10.mono s1013
        have hD13 := s1013 _ _ hD10
        refine ⟨p, l, q2, _, rfl, i13.deal, z2, o2.1, o2.2, by show 0 < 2; decide, by show 2 ≤ 1000; decide, fun x H14 hx s14 d14 => ?_⟩
        have i14 := i13.step s14 d14
        have hD14 := s14 _ _ n1 n2 hD13
        have hxi : ∃ us : List Int, IntsAt H14 x us ∧ us.length ≤ 1000 := by
          rcases (List.mem_cons.mp hx) with rfl | hx
          · exact ⟨[0], .lst (s14 _ _ o0.1 o0.2 z0), by decide⟩
          · rw [List.mem_singleton.mp hx]
            exact ⟨[1, 5], .lst (s14 _ _ o1.1 o1.2 z1), by decide⟩
        obtain ⟨us, hus, husl⟩ := hxi
        refine ⟨.ref D2, x, rfl, .inr (.inr (.inr ⟨zs, us, .lst hD14, hus, hzl2, husl, hzn, fun t2 H15 s15 h15 => ?_⟩))⟩
        refine ⟨by show 2 ≤ sizeLine; decide, fun u2 hu2 => ?_⟩
        have s16 : Same H15 (upd H15 u2 (.tup [.str "refused", .int 0])) := same_new hu2
        refine ⟨_, _, dp_pair (s16 _ _ h15), dp_pair upd_same, lay_r0.1, lay_r0.1, _, rfl, ?_⟩
        rw [lay_r0.2]
        refine iteF ?_
        have s1416 := s15.trans s16
        generalize upd H15 u2 (.tup [.str "refused", .int 0]) = H16 at s1416 ⊢
        have i16 := i14.mono s1416
        -- what is no telling
        refine ⟨_, rfl, by show 1 ≤ sizeLine; decide, fun a1 ha1 => ⟨by show 1 ≤ sizeLine; decide, fun a2 ha2 => fun a3 ha3 => ⟨by show 5 ≤ sizeLine; decide, fun q5 hq5 => ?_⟩⟩⟩
        have s17 : Same H16 (upd H16 a1 (.tup [V.bl true])) := same_new ha1
        have s18 : Same (upd H16 a1 (.tup [V.bl true])) (upd (upd H16 a1 (.tup [V.bl true])) a2 (.lst [V.str "3"])) := same_new ha2
        have s19 : Same (upd (upd H16 a1 (.tup [V.bl true])) a2 (.lst [V.str "3"])) (upd (upd (upd H16 a1 (.tup [V.bl true])) a2 (.lst [V.str "3"])) a3 (.dK [])) := same_new ha3
        have s20 : Same (upd (upd (upd H16 a1 (.tup [V.bl true])) a2 (.lst [V.str "3"])) a3 (.dK [])) (upd (upd (upd (upd H16 a1 (.tup [V.bl true])) a2 (.lst [V.str "3"])) a3 (.dK [])) q5 (.lst [V.non, .ref a1, .ref a2, .ref a3, V.str "3"])) := same_new hq5
        have w1 := s20 _ _ (s19 _ _ (s18 _ _ (upd_same (H := H16) (a := a1) (o := .tup [V.bl true]))))
        have w2 := s20 _ _ (s19 _ _ (upd_same (H := upd H16 a1 (.tup [V.bl true])) (a := a2) (o := .lst [V.str "3"])))
        have w3 := s20 _ _ (upd_same (H := upd (upd H16 a1 (.tup [V.bl true])) a2 (.lst [V.str "3"])) (a := a3) (o := .dK []))
        have w4 := upd_same (H := upd (upd (upd H16 a1 (.tup [V.bl true])) a2 (.lst [V.str "3"])) a3 (.dK [])) (a := q5) (o := .lst [V.non, .ref a1, .ref a2, .ref a3, V.str "3"])
        have s1620 := ((s17.trans s18).trans s19).trans s20
        have m1 := i16.deal.off ha1
        have m2 := (i16.deal.mono s17).off ha2
        have m3 := (i16.deal.mono (s17.trans s18)).off ha3
        have m5 := (i16.deal.mono ((s17.trans s18).trans s19)).off hq5
        generalize upd (upd (upd (upd H16 a1 (.tup [V.bl true])) a2 (.lst [V.str "3"])) a3 (.dK [])) q5 (.lst [V.non, .ref a1, .ref a2, .ref a3, V.str "3"]) = H20 at s1620 w1 w2 w3 w4 ⊢
        have i20 := i16.mono s1620
        refine ⟨p, l, q5, _, rfl, i20.deal, w4, m5.1, m5.2, by show 0 < 5; decide, by show 5 ≤ 1000; decide, fun x H21 hx s21 d21 => ?_⟩
        have i21 := i20.step s21 d21
        have hbad : ∀ H', SameX p l H20 H' → Bad H' x := fun H' s => by
          rcases (List.mem_cons.mp hx) with rfl | hx
          · exact .not .non
          rcases (List.mem_cons.mp hx) with rfl | hx
          · exact .tup (s _ _ m1.1 m1.2 w1) rfl
          rcases (List.mem_cons.mp hx) with rfl | hx
          · exact .lst (s _ _ m2.1 m2.2 w2) rfl
          rcases (List.mem_cons.mp hx) with rfl | hx
          · exact .not (.dic (s _ _ m3.1 m3.2 w3))
          · rw [List.mem_singleton.mp hx]
            exact .not (.str _)
        refine ⟨_, rfl, _, rfl, _, rfl, by show 2 ≤ sizeLine; decide, fun q6 hq6 => ?_⟩
        have s22 : Same H21 (upd H21 q6 (.lst [.ref no, V.non])) := same_new hq6
        have z22 : upd H21 q6 (.lst [.ref no, V.non]) q6 = some (.lst [.ref no, V.non]) := upd_same
        have o6 := i21.deal.off hq6
        generalize upd H21 q6 (.lst [.ref no, V.non]) = H22 at s22 z22 ⊢
        have i22 := i21.mono s22
        refine ⟨p, l, q6, _, rfl, i22.deal, z22, o6.1, o6.2, by show 0 < 2; decide, by show 2 ≤ 1000; decide, fun x2 H23 _ s23 d23 => ?_⟩
        have i23 := i22.step s23 d23
        have sx23 : SameX p l H20 H23 := (s21.trans (SameX.of s22)).trans s23
        refine ⟨x, x2, rfl, .inr (.inl ⟨hbad _ sx23, fun t3 H24 s24 h24 => ?_⟩)⟩
        refine ⟨by show 2 ≤ sizeLine; decide, fun u3 hu3 => ?_⟩
        have s25 : Same H24 (upd H24 u3 (.tup [.str "question", .int 0])) := same_new hu3
        refine ⟨_, _, dp_pair (s25 _ _ h24), dp_pair upd_same, lay_q0.1, lay_q0.1, ?_⟩
        rw [lay_q0.2]
        refine ⟨true, rfl, iteT ?_⟩
        have s2325 := s24.trans s25
        generalize upd H24 u3 (.tup [.str "question", .int 0]) = H25 at s2325 ⊢
        have i25 := i23.mono s2325
        refine ⟨_, rfl, _, rfl, .ref y, x, rfl, .inr (.inr (.inl ⟨hbad _ (sx23.trans (SameX.of s2325)), fun t4 H26 s26 h26 => ?_, ns, .lst i25.yes, by omega⟩))⟩
        refine ⟨by show 2 ≤ sizeLine; decide, fun u4 hu4 => ?_⟩
        have s27 : Same H26 (upd H26 u4 (.tup [.str "question", .int 1])) := same_new hu4
        refine ⟨_, _, dp_pair (s27 _ _ h26), dp_pair upd_same, lay_q1.1, lay_q1.1, ?_⟩
        rw [lay_q1.2]
      refine ⟨_, rfl, Nat.zero_le _, fun e he => ?_⟩
      have s7 : Same H6 (upd H6 e (.lst [])) := same_new he
      refine ⟨_, _, .lst (SqL.of (s7 _ _ hD6)) (dp_lots (ho6.mono s7)), .lst (SqL.of upd_same) .nil, shp_lots _, shp_list rfl (by show 0 ≤ 60; decide), _, rfl, ?_⟩
      rw [eqv_list_nil]
      have i7 := i6.mono s7
      have hD7 := s7 _ _ hD6
      have ho7 := ho6.mono s7
      have hlo7 := ho7.len
      rcases hcase with ⟨e0, ht⟩ | ⟨e0, ht⟩
      · have ht7 := s7 _ _ ht
        generalize upd H6 e (.lst []) = H7 at i7 ht7 ⊢
        rw [decide_eq_true (dL_nil.mpr e0)]
        refine iteT ⟨_, rfl, by show 2 ≤ sizeLine; decide, fun u hu => ?_⟩
        have s8 : Same H7 (upd H7 u (.tup [.str "refused", .int 1])) := same_new hu
        refine ⟨_, _, dp_pair (s8 _ _ ht7), dp_pair upd_same, lay_r1.1, lay_r1.1, _, rfl, ?_⟩
        rw [lay_r1.2]
        exact iteF (tail3 _ _ ⟨none, none, none, rfl, i7.mono s8⟩)
      · have ht7 := s7 _ _ ht
        generalize upd H6 e (.lst []) = H7 at i7 ht7 hD7 ho7 ⊢
        rw [decide_eq_false (fun z => e0 (dL_nil.mp z))]
        refine iteF ?_
        have eW : prodN L ≤ 1000 := by have := i7.sm; omega
        refine ⟨_, rfl, _, rfl, D, out, due, prodN L, rfl, hD7, ho7, hdA, by omega, eW, fun H8 s8 => ?_⟩
        rw [bestV_opt]
        rw [bestV_opt] at ht7
        have hU : ∀ A ∈ due, Under L A := fun A hA => (coarse_mem hLot).mp (List.mem_filter.mp (hdp.mem_iff.mp hA)).1
        have hNd : due.Nodup := hdp.nodup_iff.mpr ((coarse_nodup hLot).sublist List.filter_sublist)
        have hbs : ∀ b, (best due (prodN L)).1 = some b → b < 90 := fun b hb => by
          have := (best_splits hb).1
          omega
        have hb1 : due.length ≤ 1 → (best due (prodN L)).1 = none := best_one
        have hb2 : 2 ≤ due.length → ∃ b, (best due (prodN L)).1 = some b := best_some hLot hNd hU
        have hsp : ∀ b, (best due (prodN L)).1 = some b → _ := fun b hb => best_splits hb
        obtain ⟨w1, w2, w3, w4⟩ := told_facts (best due (prodN L)).1 hbs
        have i8 := i7.mono s8
        have hD8 := s8 _ _ hD7
        have ho8 := ho7.mono s8
        have ht8 := s8 _ _ ht7
        -- the first repr, the second
        refine ⟨_, rfl, t8, dTold (best due (prodN L)).1, rfl, dp_told ht8, w1, w2, w3, w4, ?_⟩
        refine ⟨_, rfl, by show 2 ≤ sizeLine; decide, fun u hu => ?_⟩
        refine ⟨u, dTold (best due (prodN L)).1, rfl, dp_told upd_same, w1, w2, w3, w4, ?_⟩
        refine ⟨rfl, _, rfl, ?_⟩
        rw [decide_eq_true rfl]
        refine iteF ?_
        have s9 : Same H8 (upd H8 u (.tup [.str "told", optV (best due (prodN L)).1])) := same_new hu
        have i9 := i8.mono s9
        have ht9 := s9 _ _ ht8
        have hD9 := s9 _ _ hD8
        have ho9 := ho8.mono s9
        generalize upd H8 u (.tup [.str "told", optV (best due (prodN L)).1]) = H9 at i9 ht9 hD9 ho9 ⊢
        refine ⟨_, rfl, y, _, rfl, .inl ⟨SqL.of i9.yes, fun ty hty => ?_⟩⟩
        have s10 : Same H9 (upd H9 ty (.tup (vI ns))) := same_new hty
        have hty10 : upd H9 ty (.tup (vI ns)) ty = some (.tup (vI ns)) := upd_same
        have i10 := i9.mono s10
        have ht10 := s10 _ _ ht9
        have hD10 := s10 _ _ hD9
        have ho10 := ho9.mono s10
        generalize upd H9 ty (.tup (vI ns)) = H10 at i10 ht10 hty10 hD10 ho10 ⊢
        refine ⟨_, rfl, no, _, rfl, .inl ⟨SqL.of i10.nos, fun tn htn => ?_⟩⟩
        have s11 : Same H10 (upd H10 tn (.tup (vI ms))) := same_new htn
        have htn11 : upd H10 tn (.tup (vI ms)) tn = some (.tup (vI ms)) := upd_same
        have i11 := i10.mono s11
        have ht11 := s11 _ _ ht10
        have hty11 := s11 _ _ hty10
        have hD11 := s11 _ _ hD10
        have ho11 := ho10.mono s11
        generalize upd H10 tn (.tup (vI ms)) = H11 at i11 ht11 hty11 htn11 hD11 ho11 ⊢
        refine ⟨.ref ty, .ref tn, rfl, .inl ⟨ns, ms, L, due, .tup hty11, .tup htn11, by have := i11.nsl; omega, by have := i11.msl; omega, hlo, hW, hdp, hds, fun e1 => absurd e1 e0, fun _ t12 H12 s12 h12 => ?_⟩⟩
        rw [bestV_opt] at h12
        have i12 := i11.mono s12
        have ht12 := s12 _ _ ht11
        have hD12 := s12 _ _ hD11
        have ho12 := ho11.mono s12
        refine ⟨t12, dTold (best due (prodN L)).1, rfl, dp_told h12, w1, w2, w3, w4, ?_⟩
        refine ⟨_, rfl, t8, dTold (best due (prodN L)).1, rfl, dp_told ht12, w1, w2, w3, w4, ?_⟩
        refine ⟨rfl, _, rfl, ?_⟩
        rw [decide_eq_true rfl]
        refine iteF ?_
        -- none where one lot is left
        refine ⟨_, rfl, rfl, ?_⟩
        refine ⟨_, rfl, D, out, rfl, .inl (SqL.of hD12), rfl, rfl, _, rfl, ?_⟩
        have e1 : decide (optV (best due (prodN L)).1 = V.non) = decide (V.int (out.length : Int) = V.int 1) := by
          have e2 : decide (V.int (out.length : Int) = V.int 1) = decide (out.length = 1) := eqN out.length 1
          rw [e2, hlo7]
          have hpos : 0 < due.length := List.length_pos_iff.mpr e0
          by_cases c : due.length = 1
          · rw [hb1 (by omega), decide_eq_true c]
            rfl
          · obtain ⟨b, hb⟩ := hb2 (by omega)
            rw [hb, decide_eq_false c]
            rfl
        rw [e1, decide_eq_true rfl]
        refine iteF ?_
        cases hbb : (best due (prodN L)).1 with
        | none =>
          refine ⟨_, rfl, rfl, _, rfl, ?_⟩
          exact iteF (tail3 _ _ ⟨_, none, none, rfl, i12⟩)
        | some b =>
          rw [show optV (some b) = V.int (b : Int) from rfl]
          refine ⟨_, rfl, rfl, _, rfl, iteT ?_⟩
          obtain ⟨_, hne1, hne2⟩ := best_splits hbb
          have cat1 : ∀ us : List Int, vI us ++ [V.int (b : Int)] = vI (us ++ [(b : Int)]) := fun us => by
            unfold vI
            rw [List.map_append]
            rfl
          have l6 := i12.nsl
          have l10 := i12.msl
          refine ⟨_, rfl, _, rfl, by show 1 ≤ sizeLine; decide, fun q1 hq1 => ?_⟩
          have s13 : Same H12 (upd H12 q1 (.lst [V.int (b : Int)])) := same_new hq1
          have z13 : upd H12 q1 (.lst [V.int (b : Int)]) q1 = some (.lst [V.int (b : Int)]) := upd_same
          refine ⟨y, q1, _, _, rfl, rfl, s13 _ _ i12.yes, z13, by rw [List.length_map]; exact sz (by show _ + 1 ≤ _; omega), fun r1 hr1 => ?_⟩
          rw [cat1]
          have s14 : Same (upd H12 q1 (.lst [V.int (b : Int)])) (upd (upd H12 q1 (.lst [V.int (b : Int)])) r1 (.lst (vI (ns ++ [(b : Int)])))) := same_new hr1
          have z14 : upd (upd H12 q1 (.lst [V.int (b : Int)])) r1 (.lst (vI (ns ++ [(b : Int)]))) r1 = some (.lst (vI (ns ++ [(b : Int)]))) := upd_same
          have s1214 := s13.trans s14
          generalize upd (upd H12 q1 (.lst [V.int (b : Int)])) r1 (.lst (vI (ns ++ [(b : Int)]))) = H14 at s1214 z14 ⊢
          have i14 := i12.mono s1214
          refine ⟨_, rfl, .ref r1, .ref no, rfl, .inl ⟨ns ++ [(b : Int)], ms, stepS L b, .lst z14, .lst i14.nos, by rw [List.length_append]; show _ + 1 ≤ _; omega, by omega, lotOf_snoc hlo b, Nat.lt_of_le_of_lt (stepS_prod L b hLot.big) hW, fun q2 xs2 G2 H15 s15 hq2 hx2 hp2 hs2 => ?_⟩⟩
          have i15 := i14.mono s15
          refine ⟨_, rfl, _, rfl, _, rfl, by show 1 ≤ sizeLine; decide, fun q3 hq3 => ?_⟩
          have s16 : Same H15 (upd H15 q3 (.lst [V.int (b : Int)])) := same_new hq3
          have z16 : upd H15 q3 (.lst [V.int (b : Int)]) q3 = some (.lst [V.int (b : Int)]) := upd_same
          refine ⟨no, q3, _, _, rfl, rfl, s16 _ _ i15.nos, z16, by rw [List.length_map]; exact sz (by show _ + 1 ≤ _; omega), fun r2 hr2 => ?_⟩
          rw [cat1]
          have s17 : Same (upd H15 q3 (.lst [V.int (b : Int)])) (upd (upd H15 q3 (.lst [V.int (b : Int)])) r2 (.lst (vI (ms ++ [(b : Int)])))) := same_new hr2
          have z17 : upd (upd H15 q3 (.lst [V.int (b : Int)])) r2 (.lst (vI (ms ++ [(b : Int)]))) r2 = some (.lst (vI (ms ++ [(b : Int)]))) := upd_same
          have s1517 := s16.trans s17
          generalize upd (upd H15 q3 (.lst [V.int (b : Int)])) r2 (.lst (vI (ms ++ [(b : Int)]))) = H17 at s1517 z17 ⊢
          have i17 := i15.mono s1517
          refine ⟨.ref y, .ref r2, rfl, .inl ⟨ns, ms ++ [(b : Int)], L, .lst i17.yes, .lst z17, by omega, by rw [List.length_append]; show _ + 1 ≤ _; omega, hlo, hW, fun q4 xs4 G4 H18 s18 hq4 hx4 hp4 hs4 => ⟨_, _, rfl, ?_⟩⟩⟩
          have i18 := i17.mono s18
          have s1518 := s1517.trans s18
          have hq2' := s1518 _ _ hq2
          have hx2' := hx2.mono s1518
          have s1218 := (s1214.trans s15).trans s1518
          have hD18 := s1218 _ _ hD12
          have ho18 := ho12.mono s1218
          have p2 : G2.Perm (due.filter fun A => fit A b) := (hp2.trans (left_step hLot ms b)).trans (hdp.symm.filter _)
          have p4 : G4.Perm (due.filter fun A => !fit A b) := (hp4.trans (List.Perm.of_eq (left_snoc L ms b))).trans (hdp.symm.filter _)
          have n2' : G2 ≠ [] := fun e => hne1 (by rw [e] at p2; exact List.nil_perm.mp p2)
          have n4' : G4 ≠ [] := fun e => hne2 (by rw [e] at p4; exact List.nil_perm.mp p4)
          have pall : (G2 ++ G4).Perm due := (p2.append p4).trans (List.filter_append_perm (fun A => fit A b) due)
          -- neither is empty
          refine ⟨_, rfl, Nat.zero_le _, fun u1 hu1 => ?_⟩
          have s19 : Same H18 (upd H18 u1 (.tup [])) := same_new hu1
          refine ⟨.tuple (dL G2), .tuple [], .tup (SqT.of (s19 _ _ hq2')) (dp_lots (hx2'.mono s19)), .tup (SqT.of upd_same) .nil, shp_lotsT _, shp_tup rfl (by show 0 ≤ 60; decide), _, rfl, ?_⟩
          rw [eqv_tup_nil, decide_eq_false fun z => n2' (dL_nil.mp z)]
          refine iteF ⟨_, rfl, Nat.zero_le _, fun u2 hu2 => ?_⟩
          have s20 : Same (upd H18 u1 (.tup [])) (upd (upd H18 u1 (.tup [])) u2 (.tup [])) := same_new hu2
          have s1820 := s19.trans s20
          refine ⟨.tuple (dL G4), .tuple [], .tup (SqT.of (s1820 _ _ hq4)) (dp_lots (hx4.mono s1820)), .tup (SqT.of upd_same) .nil, shp_lotsT _, shp_tup rfl (by show 0 ≤ 60; decide), _, rfl, ?_⟩
          rw [eqv_tup_nil, decide_eq_false fun z => n4' (dL_nil.mp z)]
          refine iteF ?_
          generalize upd (upd H18 u1 (.tup [])) u2 (.tup []) = H20 at s1820 ⊢
          have i20 := i18.mono s1820
          have hq2'' := s1820 _ _ hq2'
          have hq4'' := s1820 _ _ hq4
          have hx2'' := hx2'.mono s1820
          have hx4'' := hx4.mono s1820
          have hD20 := s1820 _ _ hD18
          have ho20 := ho18.mono s1820
          have hcl : (xs2 ++ xs4).length ≤ 8100 := by
            rw [List.length_append, hx2''.len, hx4''.len, ← List.length_append, pall.length_eq]
            exact hdl
          refine ⟨_, rfl, _, rfl, q2, q4, xs2, xs4, rfl, rfl, SqT.of hq2'', SqT.of hq4'', sz (by rw [List.length_append] at hcl; omega), (fun e => ?_), (fun _ e => ?_), fun _ _ r3 hr3 => ?_⟩
          · exfalso
            have := hx2''.len
            rw [e] at this
            exact n2' (List.length_eq_zero_iff.mp this.symm)
          · exfalso
            have := hx4''.len
            rw [e] at this
            exact n4' (List.length_eq_zero_iff.mp this.symm)
          · have s21 : Same H20 (upd H20 r3 (.tup (xs2 ++ xs4))) := same_new hr3
            have z21 : upd H20 r3 (.tup (xs2 ++ xs4)) r3 = some (.tup (xs2 ++ xs4)) := upd_same
            generalize upd H20 r3 (.tup (xs2 ++ xs4)) = H21 at s21 z21 ⊢
            have hxx := (hx2''.mono s21).app (hx4''.mono s21)
            refine ⟨r3, xs2 ++ xs4, keyOf H21, rfl, SqT.of z21, sort_args hxx, sort_heads hxx (both_heads hLot hp2 hs2 hp4), fun ys p5 hperm hpw hp5 => ?_⟩
            obtain ⟨G5, hG5, hG5p, hG5s⟩ := sorted_lots hxx hperm hpw
            have e5 : G5 = due := lex_uniq (hG5p.trans pall) hG5s hds
            subst e5
            have s22 : Same H21 (upd H21 p5 (.lst ys)) := same_new hp5
            have s2022 := s21.trans s22
            refine ⟨_, rfl, .list (dL G5), .list (dL G5), .lst (SqL.of upd_same) (dp_lots (hG5.mono s22)), .lst (SqL.of (s2022 _ _ hD20)) (dp_lots (ho20.mono s2022)), shp_lots _, shp_lots _, _, rfl, ?_⟩
            rw [eqv_lots]
            exact iteF (tail3 _ _ ⟨_, _, _, rfl, i20.mono s2022⟩)
    refine ⟨_, rfl, _, rfl, .ref y, .ref no, rfl, .inl ⟨ns, ms, L, due, .lst i5.yes, .lst i5.nos, by have := i5.nsl; omega, by have := i5.msl; omega, hlo, hW, hdp, hds, fun e0 t8 H6 s6 h6 => ?_, fun e0 t8 H6 s6 h6 => ?_⟩⟩
    · exact tail2 _ _ ⟨t8, rfl, i5.mono s6, s6 _ _ hD5, ho.mono s6, .inl ⟨e0, h6⟩⟩
    · exact tail2 _ _ ⟨t8, rfl, i5.mono s6, s6 _ _ hD5, ho.mono s6, .inr ⟨e0, h6⟩⟩
  refine ⟨_, rfl, p, l, 3, rfl, d4, by decide, by decide, fun r2 H5 s5 d5 hr5 => ?_⟩
  have sit5 := sit4.step s5 d5
  refine ⟨_, _, rfl, rfl, _, rfl, ?_⟩
  cases decide ((0 : Int) < ((r2 : Nat) : Int)) with
  | false => exact iteF (tail1 _ _ ⟨D, ms, rfl, sit5⟩)
  | true =>
    refine iteT ⟨_, rfl, D, rfl, ⟨_, SqL.of sit5.nos⟩, fun D2 hD2 => loopL (K := K) (a := D) (xs := vI ms) (fun j H6 => Cw H5 D2 (vI ((ms.take j).filter fun c => !fit L c)) H6) (Cw.start hD2) (fun j H6 _ cw => SqL.of (cw.same _ _ sit5.nos)) ?_ ?_⟩
    · intro j x H6 hj cw
      obtain ⟨c, hc, rfl⟩ := map_at hj
      have hjl := at_lt hc
      have hsm : (vI ((ms.take j).filter fun c => !fit L c)).length < 100000 := by
        have := List.length_filter_le (fun c => !fit L c) (ms.take j)
        rw [List.length_take] at this
        rw [List.length_map]
        omega
      rw [take_snoc hc, List.filter_append]
      refine ⟨rfl, ?_⟩
      refine ⟨_, rfl, _, rfl, tl, L, c, rfl, cw.same _ _ sit5.lot, hL0, hlL, fun H7 s7 => ⟨_, rfl, ?_⟩⟩
      cases hf : fit L c with
      | true => exact iteF (cw.skip s7 (by simp [hf]))
      | false =>
        refine iteT ⟨_, rfl, ?_⟩
        exact cw.put s7 hsm (by simp [hf])
    · intro H6 cw
      rw [List.length_map, take_all] at cw
      obtain ⟨g1, g2⟩ := d5.off hD2
      have sit6 := sit5.mono cw.same
      refine tail1 _ _ ⟨D2, _, rfl, ⟨sit6.deal, y1, y2, g1, g2, sit6.yes, sit6.lot, cw.here, hnl, ?_, hlo, hW⟩⟩
      have := List.length_filter_le (fun c => !fit L c) ms
      omega
end
end K45
namespace K45
open PySem L2 M45
/-! ### from what the written part says to the law's call -/
/-- the def named x stands there, st is its text -/
def Def (K : PySem.W.Frag) (mg : Str → Option Value) (x : Str) (st : Stmt) : Prop :=
  ∃ (f : Addr) (fd : FuncData), Fun K x x st f fd ∧ mg x = some (.ref f) ∧ PySem.W.keepIn K (.ref f) = true
theorem def_mk {K : PySem.W.Frag} {h : Heap} {mg : Str → Option Value} {x : Str} {st : Stmt} (X : K.In h) (G : h.Ns mainGlobals mg) {f : Addr} {oc kV doc pm cdv ct : Value} {od an : Option Addr} {osl : Array (Option Value)}
    (a : PySem.W.nsIn K mainGlobals x = some (some (.ref f))) (l : K.lookup f = some ⟨oc, od, .func (PySem.W.fnOf x x (defArgs st) (defBody st) (defScope st) .none kV doc pm an cdv ct), osl⟩) (c : PySem.W.codeIn K cdv x = true) (k : PySem.W.keepIn K (.ref f) = true) : Def K mg x st :=
  ⟨f, _, fun_mk l c k, PySem.W.mg_of X G a, k⟩
theorem exm_of {K : PySem.W.Frag} {S C : Addr} {b : Bool} (h1 : PySem.W.subIn K (.ref S) (.type "BaseException") = some true) (h2 : PySem.W.isClsIn K S = true) (h3 : PySem.W.typeIn K (.ref S) = some (.type "type")) (h4 : PySem.W.subIn K (.ref C) (.ref S) = some b) :
    PySem.W.exmOne K (.ref C) (.ref S) = some b := by
  have e1 : (PySem.W.subIn K (.ref S) (.type "BaseException") == some true) = true := by rw [h1] <;> rfl
  have e3 : (PySem.W.clsIn K S).isSome = true := h2
  have e2 : ((PySem.W.clsIn K S).isSome && PySem.W.typeIn K (.ref S) == some (.type "type")) = true := by rw [e3, h3] <;> rfl
  show (if (PySem.W.subIn K (.ref S) (.type "BaseException") == some true) = true then (if ((PySem.W.clsIn K S).isSome && PySem.W.typeIn K (.ref S) == some (.type "type")) = true then PySem.W.subIn K (.ref C) (.ref S) else none) else none) = some b
  rw [if_pos e1, if_pos e2, h4]
open PySem.W PySem.ErrX PySem.HandSPX in
theorem err_mk {P : Program} {K : Frag} {h : Heap} {mg : Str → Option Value} {x : Str} {C fI : Addr} (X : K.In h) (G : h.Ns mainGlobals mg)
    {nm q : Str} {N : Addr} {bs bm : List Value} {sn : List Str} {sub : List Value} {ab : Bool} {col : Option Bool} {dd : Option Addr} {k0 k1 k2 k3 k5 : Option Value}
    {oc : Value} {od : Option Addr} {doc pm : Value} {an : Option Addr} {cda cc : Addr} {ct : Value} {osl : Array (Option Value)} {p1 p2 q1 q2 q3 q4 q5 q6 q7 q8 q9 q10 : Pos} {txt qual : Str} {j : Nat}
    {ccl : Value} {cdd : Option Addr} {vs : Array Value} {ccs : Array (Option Value)} {file : Str} {tf : Tok} {cl : Value} {cld : Option Addr} {csl : Array (Option Value)}
    (aC : nsIn K mainGlobals x = some (some (.ref C)))
    (xL : K.lookup C = some (excClassObj nm q C N bs bm true sn sub ab col dd k0 k1 k2 k3 k5 "ValueError.__new__")) (hbm : refsVE bm = true)
    (sa : findIn K (.ref C) "__setattr__" = some (some (.builtin "object.__setattr__"))) (ga : findIn K (.ref C) "__getattribute__" = some (some (.builtin "BaseException.__getattribute__"))) (gg : findIn K (.ref C) "__getattr__" = some none) (nb : findIn K (.ref C) "at" = some none)
    (a1 : findIn K (.ref C) "__init__" = some (some (.ref fI))) (t1 : typeIn K (.ref fI) = some (.type "function"))
    (l1 : K.lookup fI = some ⟨oc, od, .func (ksFn "__init__" qual (pA p1 p2) (pB txt j q1 q2 q3 q4 q5 q6 q7 q8 q9 q10) pS .none .none doc pm an (.ref cda) ct cc), osl⟩) (hln : (q3.endLine == q5.line) = true) (c1 : codeIn K (.ref cda) qual = true)
    (lc : K.lookup cda = some ⟨ccl, cdd, .fields vs, ccs⟩) (v2 : vs[2]? = some (.str file tf)) (fl : ((P.main.file : Str) == file) = true) (ll : K.lookup cc = some ⟨cl, cld, .cell (some (.ref C)), csl⟩)
    (kC : keepIn K (.ref C) = true) (eC : subIn K (.ref C) (.type "BaseException") = some true) (vC : subIn K (.ref C) (.type "ValueError") = some true) (tC : typeIn K (.ref C) = some (.type "type")) (hC : hasDictIn K C = true) (iC : isClsIn K C = true)
    (sC : subIn K (.ref C) (.ref C) = some true) (mr : mroIn K C (.ref C) = some true) (sp : ks_superIn K C C "__init__" = some (some (.builtin "ValueError.__init__"))) (oq : nsIn K cStatics "thirdparty.any" = some none)
    (zs : nsIn K mainGlobals "super" = some none) (tp : (P.main.scope.names.lookup ("super" : Str)).isSome = false) : ErrTxt P K mg x C fI :=
  { gC := mg_of X G aC, cls := ⟨nm, q, N, bs, bm, sn, sub, ab, col, dd, k0, k1, k2, k3, k5, xL, hbm⟩, sa := sa, ga := ga, gg := gg, noN := nb, iC := a1, tC := t1, kC := kC, exC := eC, veC := vC, tyC := tC, hdC := hC, mro := mr, sup := sp, opq := oq,
    noS := mg_none_of X G zs, top := tp, te := exm_of eC iC tC sC,
    fn := ⟨oc, od, doc, pm, an, cda, cc, ct, osl, p1, p2, q1, q2, q3, q4, q5, q6, q7, q8, q9, q10, txt, qual, j, hln, ccl, cdd, vs, ccs, file, tf, cl, cld, csl, l1, c1, lc, v2, fl, ll⟩ }
section
variable {P : Program} {w : World} {K : PySem.W.Frag} {mg : Str → Option Value}
structure Facts (P : Program) (K : PySem.W.Frag) (mg : Str → Option Value) : Prop where
  T : Nms mg
  isInt : Def K mg "is_integer" sIsInt
  isSeq : Def K mg "is_sequence" sIsSeq
  cd : Def K mg "common_divisor" sCd
  isLot : Def K mg "is_lot" sIsLot
  chLot : Def K mg "checked_lot" sChLot
  leaves : Def K mg "leaves" sLeaves
  fits : Def K mg "fits" sFits
  whole : Def K mg "whole_of" sWhole
  chC : Def K mg "checked_counts" sChCounts
  parts : Def K mg "parts_of" sParts
  lotOf : Def K mg "lot_of" sLotOf
  chT : Def K mg "checked_tellings" sChT
  coarse : Def K mg "coarser_lots" sCoarse
  poss : Def K mg "possible_lots" sPoss
  gp : Def K mg "greater_part" sGP
  next : Def K mg "next_question" sNext
  draw : Def K mg "_law_draw" sDraw
  any : Def K mg "_law_any" sAny
  of : Def K mg "_law_of" sOf
  mix : Def K mg "_law_mixed" sMix
  divL : Def K mg "_law_divisor" sDivL
  inv : Def K mg "_law_inverse" sInv
  fitg : Def K mg "_law_fitting" sFitg
  partsL : Def K mg "_law_parts" sPartsL
  fitsL : Def K mg "_law_fits" sFitsL
  coL : Def K mg "_law_coarser" sCoL
  small : Def K mg "_law_small" sSmall
  ask : Def K mg "_law_asked" sAsk
  bestL : Def K mg "_law_best" sBestL
  errs : ∃ CQ fI CR gI, PySem.ErrX.ErrTxt P K mg "InvalidQuestion" CQ fI ∧ PySem.ErrX.ErrTxt P K mg "Refused" CR gI ∧ PySem.W.exmOne K (.ref CR) (.ref CQ) = some false
theorem runs (F : Facts P K mg) {fa : Addr} {oc kV doc pm cdv ct : Value} {od an : Option Addr} {osl : Array (Option Value)}
    (l : K.lookup fa = some ⟨oc, od, .func (PySem.W.fnOf "law" "law" (defArgs sLaw) (defBody sLaw) (defScope sLaw) .none kV doc pm an cdv ct), osl⟩) (c : PySem.W.codeIn K cdv "law" = true)
    {base : Heap} {H : Hp} {a : Addr} {ns : List Int} {s : Shared} (hS : SqL K H a (ns.map V.int)) (e0 : Env0 P w K mg base callerA [] s H) :
    codeAny (model P w) callerA (.call (.ref fa) ⟨[.ref a], []⟩) (CR CX0 [] P w H s (fun v _ => v = .bl true) E0) s := by
  obtain ⟨T, ⟨f1, g1, F1, m1, k1⟩, ⟨f2, g2, F2, m2, k2⟩, ⟨f3, g3, F3, m3, k3⟩, ⟨f4, g4, F4, m4, k4⟩, ⟨f5, g5, F5, m5, k5⟩, ⟨f6, g6, F6, m6, k6⟩, ⟨f7, g7, F7, m7, k7⟩, ⟨f8, g8, F8, m8, k8⟩, ⟨f9, g9, F9, m9, k9⟩, ⟨f10, g10, F10, m10, k10⟩,
    ⟨f11, g11, F11, m11, k11⟩, ⟨f12, g12, F12, m12, k12⟩, ⟨f13, g13, F13, m13, k13⟩, ⟨f14, g14, F14, m14, k14⟩, ⟨f15, g15, F15, m15, k15⟩, ⟨f16, g16, F16, m16, k16⟩, ⟨f17, g17, F17, m17, k17⟩, ⟨f18, g18, F18, m18, k18⟩, ⟨f19, g19, F19, m19, k19⟩, ⟨f20, g20, F20, m20, k20⟩,
    ⟨f21, g21, F21, m21, k21⟩, ⟨f22, g22, F22, m22, k22⟩, ⟨f23, g23, F23, m23, k23⟩, ⟨f24, g24, F24, m24, k24⟩, ⟨f25, g25, F25, m25, k25⟩, ⟨f26, g26, F26, m26, k26⟩, ⟨f27, g27, F27, m27, k27⟩, ⟨f28, g28, F28, m28, k28⟩, ⟨f29, g29, F29, m29, k29⟩, CQ, fI, CR, gI, TQ, TR, eRQ⟩ := F
  have b1 := F1.binds (ps := ["value"]) fun _ _ _ _ _ _ us hl => match us, hl with | [_], _ => rfl
  have C1 : Callee P w K mg base CX0 1 "is_integer" ["value"] spIsInt := ⟨f1, g1, ok_isInt F1 T, b1, m1, k1⟩
  have b2 := F2.binds (ps := ["value"]) fun _ _ _ _ _ _ us hl => match us, hl with | [_], _ => rfl
  have C2 : Callee P w K mg base CX0 1 "is_sequence" ["value"] spIsSeq := ⟨f2, g2, ok_isSeq F2 T, b2, m2, k2⟩
  have b3 := F3.binds (ps := ["one", "other"]) fun _ _ _ _ _ _ us hl => match us, hl with | [_, _], _ => rfl
  have C3 : Callee P w K mg base CX0 1 "common_divisor" ["one", "other"] spCd := ⟨f3, g3, ok_cd F3, b3, m3, k3⟩
  have b4 := F4.binds (ps := ["value"]) fun _ _ _ _ _ _ us hl => match us, hl with | [_], _ => rfl
  have C4 : Callee P w K mg base CX0 2 "is_lot" ["value"] spIsLot := ⟨f4, g4, ok_isLot F4 T C1 C3, b4, m4, k4⟩
  have b5 := F5.binds (ps := ["value"]) fun _ _ _ _ _ _ us hl => match us, hl with | [_], _ => rfl
  have C5 : Callee P w K mg base CX0 3 "checked_lot" ["value"] spChLot := ⟨f5, g5, ok_chLot F5 C4, b5, m5, k5⟩
  have b6 := F6.binds (ps := ["lot", "count"]) fun _ _ _ _ _ _ us hl => match us, hl with | [_, _], _ => rfl
  have C6 : Callee P w K mg base CX0 1 "leaves" ["lot", "count"] spLeaves := ⟨f6, g6, ok_leaves F6 T, b6, m6, k6⟩
  have b7 := F7.binds (ps := ["lot", "count"]) fun _ _ _ _ _ _ us hl => match us, hl with | [_, _], _ => rfl
  have C7 : Callee P w K mg base CX0 4 "fits" ["lot", "count"] spFits := ⟨f7, g7, ok_fits F7 C5 C6, b7, m7, k7⟩
  have b8 := F8.binds (ps := ["lot"]) fun _ _ _ _ _ _ us hl => match us, hl with | [_], _ => rfl
  have C8 : Callee P w K mg base CX0 1 "whole_of" ["lot"] spWhole := ⟨f8, g8, ok_whole F8, b8, m8, k8⟩
  have b9 := F9.binds (ps := ["value"]) fun _ _ _ _ _ _ us hl => match us, hl with | [_], _ => rfl
  have C9 : Callee P w K mg base (L2.CX P w) 3 "checked_counts" ["value"] (spChC CQ) := ⟨f9, g9, ok_chC F9 T TQ C2 C1, b9, m9, k9⟩
  have b10 := F10.binds (ps := ["counts"]) fun _ _ _ _ _ _ us hl => match us, hl with | [_], _ => rfl
  have C10 : Callee P w K mg base CX0 2 "parts_of" ["counts"] spParts := ⟨f10, g10, ok_parts F10 T C3, b10, m10, k10⟩
  have b11 := F11.binds (ps := ["counts"]) fun _ _ _ _ _ _ us hl => match us, hl with | [_], _ => rfl
  have C11 : Callee P w K mg base CX0 4 "lot_of" ["counts"] spLotOf := ⟨f11, g11, ok_lotOf F11 T C9 C10, b11, m11, k11⟩
  have b12 := F12.binds (ps := ["yes", "no"]) fun _ _ _ _ _ _ us hl => match us, hl with | [_, _], _ => rfl
  have C12 : Callee P w K mg base (L2.CX P w) 4 "checked_tellings" ["yes", "no"] (spChT CQ) := ⟨f12, g12, ok_chT F12 T TQ C2 C1 C9, b12, m12, k12⟩
  have b13 := F13.binds (ps := ["lot"]) fun _ _ _ _ _ _ us hl => match us, hl with | [_], _ => rfl
  have C13 : Callee P w K mg base CX0 2 "coarser_lots" ["lot"] spCoarse := ⟨f13, g13, ok_coarse F13 T C3, b13, m13, k13⟩
  have b14 := F14.binds (ps := ["yes", "no"]) fun _ _ _ _ _ _ us hl => match us, hl with | [_, _], _ => rfl
  have C14 : Callee P w K mg base (L2.CX P w) 5 "possible_lots" ["yes", "no"] (spPoss CQ CR) := ⟨f14, g14, ok_poss F14 T TR C12 C11 C13 C7, b14, m14, k14⟩
  have b15 := F15.binds (ps := ["lots", "count"]) fun _ _ _ _ _ _ us hl => match us, hl with | [_, _], _ => rfl
  have C15 : Callee P w K mg base CX0 2 "greater_part" ["lots", "count"] spGP := ⟨f15, g15, ok_GP F15 T C6, b15, m15, k15⟩
  have C16 : CalleeKw P w K mg base (L2.CX P w) 6 "next_question" ["yes", "no"] (spNext CQ CR) := by
    refine ⟨f16, g16, ok_next F16 T TR C14 C11 C8 C15, ?_, m16, k16⟩
    obtain ⟨oc, od, kV, doc, pm, an, cdv, ct, osl, rfl, _, _⟩ := F16.ex
    exact fun s ws hl => match ws, hl with | [_, _], _ => .of_eq rfl
  have b17 := F17.binds (ps := ["_law_script", "_law_salt"]) fun _ _ _ _ _ _ us hl => match us, hl with | [_, _], _ => rfl
  have C17 : Callee P w K mg base CX0 1 "_law_draw" ["_law_script", "_law_salt"] (spDraw K) := ⟨f17, g17, ok_draw F17 T, b17, m17, k17⟩
  have b18 := F18.binds (ps := ["_law_deal", "_law_bound"]) fun _ _ _ _ _ _ us hl => match us, hl with | [_, _], _ => rfl
  have C18 : Callee P w K mg base CX0 1 "_law_any" ["_law_deal", "_law_bound"] spAny := ⟨f18, g18, ok_any F18 T, b18, m18, k18⟩
  have b19 := F19.binds (ps := ["_law_deal", "_law_some"]) fun _ _ _ _ _ _ us hl => match us, hl with | [_, _], _ => rfl
  have C19 : Callee P w K mg base CX0 2 "_law_of" ["_law_deal", "_law_some"] spOf := ⟨f19, g19, ok_of F19 T C18, b19, m19, k19⟩
  have b20 := F20.binds (ps := ["_law_deal", "_law_some"]) fun _ _ _ _ _ _ us hl => match us, hl with | [_, _], _ => rfl
  have C20 : Callee P w K mg base CX0 2 "_law_mixed" ["_law_deal", "_law_some"] spMix := ⟨f20, g20, ok_mix F20 T C18, b20, m20, k20⟩
  have b21 := F21.binds (ps := ["_law_one", "_law_other"]) fun _ _ _ _ _ _ us hl => match us, hl with | [_, _], _ => rfl
  have C21 : Callee P w K mg base CX0 1 "_law_divisor" ["_law_one", "_law_other"] spCd := ⟨f21, g21, ok_divL F21 T, b21, m21, k21⟩
  have b22 := F22.binds (ps := ["_law_number", "_law_q"]) fun _ _ _ _ _ _ us hl => match us, hl with | [_, _], _ => rfl
  have C22 : Callee P w K mg base CX0 1 "_law_inverse" ["_law_number", "_law_q"] spNo := ⟨f22, g22, ok_inv F22, b22, m22, k22⟩
  have b23 := F23.binds (ps := ["_law_deal", "_law_lot"]) fun _ _ _ _ _ _ us hl => match us, hl with | [_, _], _ => rfl
  have C23 : Callee P w K mg base CX0 2 "_law_fitting" ["_law_deal", "_law_lot"] spFitg := ⟨f23, g23, ok_fitg F23 T C18 C22, b23, m23, k23⟩
  have b24 := F24.binds (ps := ["_law_counts"]) fun _ _ _ _ _ _ us hl => match us, hl with | [_], _ => rfl
  have C24 : Callee P w K mg base CX0 2 "_law_parts" ["_law_counts"] spPartsL := ⟨f24, g24, ok_partsL F24 T C21, b24, m24, k24⟩
  have b25 := F25.binds (ps := ["_law_lot", "_law_n"]) fun _ _ _ _ _ _ us hl => match us, hl with | [_, _], _ => rfl
  have C25 : Callee P w K mg base CX0 1 "_law_fits" ["_law_lot", "_law_n"] spLeaves := ⟨f25, g25, ok_fitsL F25 T, b25, m25, k25⟩
  have b26 := F26.binds (ps := ["_law_lot"]) fun _ _ _ _ _ _ us hl => match us, hl with | [_], _ => rfl
  have C26 : Callee P w K mg base CX0 2 "_law_coarser" ["_law_lot"] spCoL := ⟨f26, g26, ok_coL F26 T C21, b26, m26, k26⟩
  have b27 := F27.binds (ps := ["_law_deal"]) fun _ _ _ _ _ _ us hl => match us, hl with | [_], _ => rfl
  have C27 : Callee P w K mg base CX0 3 "_law_small" ["_law_deal"] spSmall := ⟨f27, g27, ok_small F27 T C18 C19 C23 C24 C20, b27, m27, k27⟩
  have b28 := F28.binds (ps := ["_law_yes", "_law_no"]) fun _ _ _ _ _ _ us hl => match us, hl with | [_, _], _ => rfl
  have C28 : Callee P w K mg base CX0 7 "_law_asked" ["_law_yes", "_law_no"] spAsk := ⟨f28, g28, ok_ask F28 T TQ TR TQ.te eRQ TR.te C16, b28, m28, k28⟩
  have b29 := F29.binds (ps := ["_law_lots", "_law_whole"]) fun _ _ _ _ _ _ us hl => match us, hl with | [_, _], _ => rfl
  have C29 : Callee P w K mg base CX0 2 "_law_best" ["_law_lots", "_law_whole"] spBestL := ⟨f29, g29, ok_bestL F29 T C25, b29, m29, k29⟩
  have hr : Room 8 callerA := ⟨rfl, by decide, by decide⟩
  refine fn_once (N := NLw) (ps := ["_law_script"]) (us := [.ref a]) (vs := [.ref a]) l c scLaw hr e0 (.of_eq rfl) (.cons rfl .nil) rfl ?_
  obtain ⟨t, ht, q⟩ := law_runs (w := w) (base := base) (CQ := CQ) (CR := CR) (f := fa) (cdv := cdv) (A := callerA) (outer := []) (s := s) (H := H) T C17 C27 C18 C25 C26 C28 C29 C14 C19 (hr.deeper _) rfl hS
  exact ⟨t, ht.nox, q⟩
theorem law_at {h : Heap} {fa fb : Addr} {oc kV doc pm cdv ct : Value} {od an : Option Addr} {osl : Array (Option Value)} (X : K.In h) (G : h.Ns mainGlobals mg) (hfa : mg "law" = some (.ref fa))
    (aL : PySem.W.nsIn K mainGlobals "law" = some (some (.ref fb))) (l : K.lookup fb = some ⟨oc, od, .func (PySem.W.fnOf "law" "law" (defArgs sLaw) (defBody sLaw) (defScope sLaw) .none kV doc pm an cdv ct), osl⟩) (c : PySem.W.codeIn K cdv "law" = true) (F : Facts P K mg)
    {base : Heap} {H : Hp} {a : Addr} {ns : List Int} {s : Shared} (hS : SqL K H a (ns.map V.int)) (e0 : Env0 P w K mg base callerA [] s H) :
    codeAny (model P w) callerA (.call (.ref fa) ⟨[.ref a], []⟩) (CR CX0 [] P w H s (fun v _ => v = .bl true) E0) s := by
  have e := hfa.symm.trans (PySem.W.mg_of X G aL)
  cases e
  exact runs F l c hS e0
end
end K45
open PySem PySem.W PyProof.Rows
set_option maxRecDepth 110000 in
set_option maxHeartbeats 0 in
theorem PySem.Challenge.cw_batchnumbers_k45_whole_best_questions_holds : PySem.Challenge.rw_batchnumbers_k45_whole_best_questions.Holds := by
  w_on; o_law; k_head; (case hw => w_witness2)
  k_fill
  refine L2.walk_once (l := PySem.Challenge.rw_batchnumbers_k45_whole_best_questions) (n := 63) rfl (by decide) rfl (fun w h Y => PySem.W.kIn_of Y) ?F
  case F =>
    intro w mg fa h KX G hmg base H a ns s₁ hk hb hO hlen hS e0
    refine' K45.law_at KX G hmg ?aL ?lL ?cL ⟨?T, ?d0, ?d1, ?d2, ?d3, ?d4, ?d5, ?d6, ?d7, ?d8, ?d9, ?d10, ?d11, ?d12, ?d13, ?d14, ?d15, ?d16, ?d17, ?d18, ?d19, ?d20, ?d21, ?d22, ?d23, ?d24, ?d25, ?d26, ?d27, ?d28, ?errs⟩ hS e0
    (case aL => k_is); (case lL => k_is); (case cL => k_is)
    case T =>
      refine' ⟨PySem.W.mg_none_of KX G ?z0, PySem.W.mg_none_of KX G ?z1, PySem.W.mg_none_of KX G ?z2, PySem.W.mg_none_of KX G ?z3, PySem.W.mg_none_of KX G ?z4, PySem.W.mg_none_of KX G ?z5, PySem.W.mg_none_of KX G ?z6, PySem.W.mg_none_of KX G ?z7, PySem.W.mg_none_of KX G ?z8, PySem.W.mg_none_of KX G ?z9, PySem.W.mg_none_of KX G ?z10, PySem.W.mg_none_of KX G ?z11, PySem.W.mg_none_of KX G ?z12⟩
      all_goals k_is
    case d0 =>
      refine' K45.def_mk KX G ?a ?l ?c ?k
      (case a => k_is); (case l => k_is); (case c => k_is); (case k => k_is)
    case d1 =>
      refine' K45.def_mk KX G ?a ?l ?c ?k
      (case a => k_is); (case l => k_is); (case c => k_is); (case k => k_is)
    case d2 =>
      refine' K45.def_mk KX G ?a ?l ?c ?k
      (case a => k_is); (case l => k_is); (case c => k_is); (case k => k_is)
    case d3 =>
      refine' K45.def_mk KX G ?a ?l ?c ?k
      (case a => k_is); (case l => k_is); (case c => k_is); (case k => k_is)
    case d4 =>
      refine' K45.def_mk KX G ?a ?l ?c ?k
      (case a => k_is); (case l => k_is); (case c => k_is); (case k => k_is)
    case d5 =>
      refine' K45.def_mk KX G ?a ?l ?c ?k
      (case a => k_is); (case l => k_is); (case c => k_is); (case k => k_is)
    case d6 =>
      refine' K45.def_mk KX G ?a ?l ?c ?k
      (case a => k_is); (case l => k_is); (case c => k_is); (case k => k_is)
    case d7 =>
      refine' K45.def_mk KX G ?a ?l ?c ?k
      (case a => k_is); (case l => k_is); (case c => k_is); (case k => k_is)
    case d8 =>
      refine' K45.def_mk KX G ?a ?l ?c ?k
      (case a => k_is); (case l => k_is); (case c => k_is); (case k => k_is)
    case d9 =>
      refine' K45.def_mk KX G ?a ?l ?c ?k
      (case a => k_is); (case l => k_is); (case c => k_is); (case k => k_is)
    case d10 =>
      refine' K45.def_mk KX G ?a ?l ?c ?k
      (case a => k_is); (case l => k_is); (case c => k_is); (case k => k_is)
    case d11 =>
      refine' K45.def_mk KX G ?a ?l ?c ?k
      (case a => k_is); (case l => k_is); (case c => k_is); (case k => k_is)
    case d12 =>
      refine' K45.def_mk KX G ?a ?l ?c ?k
      (case a => k_is); (case l => k_is); (case c => k_is); (case k => k_is)
    case d13 =>
      refine' K45.def_mk KX G ?a ?l ?c ?k
      (case a => k_is); (case l => k_is); (case c => k_is); (case k => k_is)
    case d14 =>
      refine' K45.def_mk KX G ?a ?l ?c ?k
      (case a => k_is); (case l => k_is); (case c => k_is); (case k => k_is)
    case d15 =>
      refine' K45.def_mk KX G ?a ?l ?c ?k
      (case a => k_is); (case l => k_is); (case c => k_is); (case k => k_is)
    case d16 =>
      refine' K45.def_mk KX G ?a ?l ?c ?k
      (case a => k_is); (case l => k_is); (case c => k_is); (case k => k_is)
    case d17 =>
      refine' K45.def_mk KX G ?a ?l ?c ?k
      (case a => k_is); (case l => k_is); (case c => k_is); (case k => k_is)
    case d18 =>
      refine' K45.def_mk KX G ?a ?l ?c ?k
      (case a => k_is); (case l => k_is); (case c => k_is); (case k => k_is)
    case d19 =>
      refine' K45.def_mk KX G ?a ?l ?c ?k
      (case a => k_is); (case l => k_is); (case c => k_is); (case k => k_is)
    case d20 =>
      refine' K45.def_mk KX G ?a ?l ?c ?k
      (case a => k_is); (case l => k_is); (case c => k_is); (case k => k_is)
    case d21 =>
      refine' K45.def_mk KX G ?a ?l ?c ?k
      (case a => k_is); (case l => k_is); (case c => k_is); (case k => k_is)
    case d22 =>
      refine' K45.def_mk KX G ?a ?l ?c ?k
      (case a => k_is); (case l => k_is); (case c => k_is); (case k => k_is)
    case d23 =>
      refine' K45.def_mk KX G ?a ?l ?c ?k
      (case a => k_is); (case l => k_is); (case c => k_is); (case k => k_is)
    case d24 =>
      refine' K45.def_mk KX G ?a ?l ?c ?k
      (case a => k_is); (case l => k_is); (case c => k_is); (case k => k_is)
    case d25 =>
      refine' K45.def_mk KX G ?a ?l ?c ?k
      (case a => k_is); (case l => k_is); (case c => k_is); (case k => k_is)
    case d26 =>
      refine' K45.def_mk KX G ?a ?l ?c ?k
      (case a => k_is); (case l => k_is); (case c => k_is); (case k => k_is)
    case d27 =>
      refine' K45.def_mk KX G ?a ?l ?c ?k
      (case a => k_is); (case l => k_is); (case c => k_is); (case k => k_is)
    case d28 =>
      refine' K45.def_mk KX G ?a ?l ?c ?k
      (case a => k_is); (case l => k_is); (case c => k_is); (case k => k_is)
    case errs =>
      refine' ⟨_, _, _, _, ?TQ, ?TR, ?ex⟩
      case TQ =>
        refine' K45.err_mk KX G ?aC ?xL ?hbm ?sa ?ga ?gg ?nb ?a1 ?t1 ?l1 ?hln ?c1 ?lc ?v2 ?fl ?ll ?kC ?eC ?vC ?tC ?hC ?iC ?sC ?mr ?sp ?oq ?zs ?tp
        (case aC => k_is)
        (case xL => k_is)
        (case hbm => decide +kernel)
        (case sa => k_is)
        (case ga => k_is)
        (case gg => k_is)
        (case nb => k_is)
        (case a1 => k_is)
        (case t1 => k_is)
        (case l1 => k_is)
        (case hln => first | rfl | decide +kernel)
        (case c1 => k_is)
        (case lc => k_is)
        (case v2 => first | rfl | decide +kernel)
        (case fl => first | rfl | decide +kernel)
        (case ll => k_is)
        (case kC => k_is)
        (case eC => k_is)
        (case vC => k_is)
        (case tC => k_is)
        (case hC => k_is)
        (case iC => k_is)
        (case sC => first | k_is | rfl)
        (case mr => k_is)
        (case sp => first | rfl | decide +kernel)
        (case oq => k_is)
        (case zs => k_is)
        (case tp => first | rfl | decide +kernel)
      case TR =>
        refine' K45.err_mk KX G ?aC ?xL ?hbm ?sa ?ga ?gg ?nb ?a1 ?t1 ?l1 ?hln ?c1 ?lc ?v2 ?fl ?ll ?kC ?eC ?vC ?tC ?hC ?iC ?sC ?mr ?sp ?oq ?zs ?tp
        (case aC => k_is)
        (case xL => k_is)
        (case hbm => decide +kernel)
        (case sa => k_is)
        (case ga => k_is)
        (case gg => k_is)
        (case nb => k_is)
        (case a1 => k_is)
        (case t1 => k_is)
        (case l1 => k_is)
        (case hln => first | rfl | decide +kernel)
        (case c1 => k_is)
        (case lc => k_is)
        (case v2 => first | rfl | decide +kernel)
        (case fl => first | rfl | decide +kernel)
        (case ll => k_is)
        (case kC => k_is)
        (case eC => k_is)
        (case vC => k_is)
        (case tC => k_is)
        (case hC => k_is)
        (case iC => k_is)
        (case sC => first | k_is | rfl)
        (case mr => k_is)
        (case sp => first | rfl | decide +kernel)
        (case oq => k_is)
        (case zs => k_is)
        (case tp => first | rfl | decide +kernel)
      case ex =>
        refine' K45.exm_of ?h1 ?h2 ?h3 ?h4
        (case h1 => k_is); (case h2 => k_is); (case h3 => k_is); (case h4 => first | k_is | rfl)
