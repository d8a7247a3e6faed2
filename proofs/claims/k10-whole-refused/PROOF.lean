import PyProof.Rows.All
import Wide.All
import OpenK.AllK
import Wide.FinOn
import KE.KLam
import KE.KDflt
import KE.KNestM
import PyProof.EqAt
import PyProof.EqKinds
import PyProof.TupleCall
import KE.KExcSuper
import KE.KExcIs
import HandS.ForMost
import HandS.Exc
import HandS.ExcOwn
import HandS.WordsExc
import HandS.IsInst
import HandS.SetFor
import HandS.Codes
import HandS.Lambda
import HandS.Zip
import HandS.TupAny
import HandS.Star
import KE.GoesZip
import KE.GoesMore
import KE.KDictZip
import KE.KDictCopyH
import HandS.Text
import HandS.Walk
import HandS.Style
import HandS.ExcField
import HandS.TupMul
import HandS.EndTab
import PySem.Challenge.RW_rulevoices_k10_whole_refused
set_option Elab.async false
set_option linter.all false
set_option maxRecDepth 100000
set_option maxHeartbeats 4000000
/-! ## RvExc -/
/-! An own error over own errors over ValueError, whose __init__ says super().__init__(index) and stores index: made and raised; its fields. -/
namespace PySem
namespace RvX
open PySem.W PySem.Calls PyProof.Rows PySem.HandSPX
/-! ### the text of such an __init__ -/
def argsI (p1 p2 : Pos) : Arguments :=
  { posonlyargs := [], args := [{ arg := "self", annotation := none, pos := p1 }, { arg := "index", annotation := none, pos := p2 }],
    vararg := none, kwonlyargs := [], kw_defaults := [], kwarg := none, defaults := [] }
def supE (a1 a2 a3 : Pos) : Expr := .Attribute (.Call (.Name "super" a1) [] [] a2) "__init__" a3
def bodyI (a1 a2 a3 a4 a5 a6 b1 b2 b3 b4 : Pos) : List Stmt :=
  [.Expr (.Call (supE a1 a2 a3) [.Name "index" a4] [] a5) a6, .Assign [.Attribute (.Name "self" b1) "index" b2] (.Name "index" b3) b4]
def scopeI : Scope :=
  { kind := .function, names := [(PySem.Str.ofString "self", .local), (PySem.Str.ofString "index", .local),
      (PySem.Str.ofString "__class__", .free), (PySem.Str.ofString "super", .globalImplicit)],
    isGenerator := false, isCoroutine := false, more := [] }
/-- what the top has left of the class at C and its __init__ at fI -/
structure IxTxt (P : Program) (K : Frag) (mg : Str → Option Value) (nm : Str) (C fI : Addr) : Prop where
  gC : mg nm = some (.ref C)
  cls : ∃ nm q N bs bm sn sub ab col dd k0 k1 k2 k3 k5,
    K.lookup C = some (excClassObj nm q C N bs bm true sn sub ab col dd k0 k1 k2 k3 k5 "ValueError.__new__") ∧ refsVE bm = true
  sa : findIn K (.ref C) "__setattr__" = some (some (.builtin "object.__setattr__"))
  noN : findIn K (.ref C) "index" = some none
  iC : findIn K (.ref C) "__init__" = some (some (.ref fI))
  tI : typeIn K (.ref fI) = some (.type "function")
  kC : keepIn K (.ref C) = true
  exC : subIn K (.ref C) (.type "BaseException") = some true
  veC : subIn K (.ref C) (.type "ValueError") = some true
  tyC : typeIn K (.ref C) = some (.type "type")
  own : mroIn K C (.ref C) = some true
  sup : ks_superIn K C C "__init__" = some (some (.builtin "ValueError.__init__"))
  third : nsIn K cStatics "thirdparty.any" = some none
  noS : mg "super" = none
  main : (P.main.scope.names.lookup ("super" : Str)).isSome = false
  fn : ∃ (q : Str) (oc : Value) (od : Option Addr) (doc pm : Value) (an : Option Addr) (cda cc : Addr) (ct : Value) (osl : Array (Option Value)) (p1 p2 a1 a2 a3 a4 a5 a6 b1 b2 b3 b4 : Pos),
    K.lookup fI = some ⟨oc, od, .func (ksFn "__init__" q (argsI p1 p2) (bodyI a1 a2 a3 a4 a5 a6 b1 b2 b3 b4) scopeI .none .none doc pm an (.ref cda) ct cc), osl⟩ ∧
      codeIn K (.ref cda) q = true ∧ (a3.endLine == a5.line) = true ∧
      (∃ ccl cdd vs ccs file tf, K.lookup cda = some ⟨ccl, cdd, .fields vs, ccs⟩ ∧ vs[2]? = some (.str file tf) ∧ ((P.main.file : Str) == file) = true) ∧
      (∃ cl cld csl, K.lookup cc = some ⟨cl, cld, .cell (some (.ref C)), csl⟩)
section
variable {prog : Program} {w : World} {A : Around} {E : Value → Shared → Prop} {h : Heap} {g : Array GenState} {d : Drawn} {t : Nat} {os : OsState}
/-- the bound ValueError.__init__ is called: the args are laid anew -/
theorem call_mw {nm q : Str} {C N : Addr} {bs bm : List Value} {hdct : Bool} {sn : List Str} {sub : List Value} {ab : Bool} {col : Option Bool} {dd : Option Addr}
    {k0 k1 k2 k3 k5 : Option Value} {u e t0 : Addr} {rest : List Value} {Q : Value → Shared → Prop}
    (hC : h.get? C = some (excClassObj nm q C N bs bm hdct sn sub ab col dd k0 k1 k2 k3 k5 "ValueError.__new__")) (he : h.get? e = some (excO C t0))
    (hu : h.get? u = some (kxs_mw "ValueError.__init__" e)) (hrest : rest.length ≤ sizeLine)
    (hq : ∀ h' t1, (∀ b o, b ≠ e → h.get? b = some o → h'.get? b = some o) → h'.get? e = some (excO C t1) → Q .none ⟨h', g, d, t, os⟩) :
    wpAny (model prog w) A (call (.ref u) rest) Q E ⟨h, g, d, t, os⟩ := by
  refine wpAny_call (codeAny_of_tree ?_)
  show wpAny _ A.in1 (callAny (.ref u) ⟨rest, []⟩) _ _ _
  simp only [callAny]
  refine wpAny_bind (wpAny_load hu ?_)
  simp only [kxs_mw, show (Value.type "method-wrapper" == Value.type "method" || Value.type "method-wrapper" == Value.type "builtin_function_or_method" || Value.type "method-wrapper" == Value.type "method-wrapper") = true by decide, if_true]
  refine W.KFB.if_so (by decide) ?_
  refine wpAny_bind (check_bound_init F.excBase_ValueError.toExcCallFacts hC he rfl ?_)
  refine wpAny_bind (wpAny_pure (wpAny_pure ?_))
  refine ⟨Code.quiet_builtin _ (by decide +kernel), codeAny_builtin F.excBase_ValueError.initEntry ?_⟩
  rw [Around.under_plainId F.excBase_ValueError.init.plain _]
  wp_walk
  refine hq _ h.objs.size (fun b o hb ho => ?_) ?_
  · rw [Heap.get?_update_other _ _ (Ne.symm hb)]
    exact Heap.get?_push_of_some _ ho
  · rw [Heap.get?_update_self _ (Heap.get?_push_of_some _ he) rfl]
    rfl
end
/-- the call of a method of what super() gives, on one line -/
theorem super_call {a1 a2 a3 a4 a5 : Pos} {env : Env} (hl : (a3.endLine == a5.line) = true) :
    eval (.Call (supE a1 a2 a3) [.Name "index" a4] [] a5) env = (do
      let ov ← attributeBase (.Call (.Name "super" a1) [] [] a2) "__init__" env (eval (.Call (.Name "super" a1) [] [] a2) env)
      standAt a3.atName
      let (f, first) ← holding [ov] (getMethod ov "__init__" (do return (← importBound (.Call (.Name "super" a1) [] [] a2) env).getD true))
      callWith a5 f first (backTo a5 (starEach [.Name "index" a4] env)) []) := by
  have hform : methodCallForm ([Expr.Name (PySem.Str.ofString "index") a4].length + ([] : List Keyword).length) (backTo a5 (starEach [Expr.Name (PySem.Str.ofString "index") a4] env)) (backToKw a5 (keywordEach [] env)) = true := by rfl
  have hpos : methodCallPos true (.Call (.Name "super" a1) [] [] a2) env a3 a5 = pure a5 := by
    unfold methodCallPos
    simp [hl]
  unfold supE
  rw [arm_eval_Call]
  unfold methodCall calleeOf
  simp only [hform, if_true, hpos, pure_bind]
  rfl
/-- what __init__ leaves of a fresh exception at x -/
structure IxEnd (h h' : Heap) (x C dx t1 : Addr) (v : Value) : Prop where
  keep : ∀ b o, b ≠ x → h.get? b = some o → h'.get? b = some o
  obj : h'.get? x = some { cls := .ref C, dict := some dx, data := .fields #[.ref t1, .none, .none, .none, .bool false, .none] }
  dbig : h.objs.size ≤ dx
  dne : dx ≠ x
  ns : h'.Ns1 dx (fun y => if y = "index" then some v else none)
/-- such an error, made -/
structure IxMade (h h' : Heap) (e C d : Addr) (v : Value) : Prop where
  keep : ∀ b o, h.get? b = some o → h'.get? b = some o
  new : h.objs.size ≤ e
  obj : ∃ oe vs, h'.get? e = some oe ∧ oe.cls = .ref C ∧ oe.dict = some d ∧ oe.data = .fields vs ∧ vs[1]? = some .none
  dbig : h.objs.size ≤ d
  dne : d ≠ e
  ns : h'.Ns1 d (fun y => if y = "index" then some v else none)
theorem size1 (v : Value) : [v].length ≤ sizeLine := by
  rw [sizeLine_eq]
  exact (by decide : 1 ≤ 16777216)
section
variable {prog : Program} {w : World} {A : Around} {E : Value → Shared → Prop} {R : Result → Shared → Prop} {s : Shared} {K : Frag} {mg mb : Str → Option Value} {C fI : Addr} {nm : Str}
theorem ix_init (T : IxTxt prog K mg nm C fI) {x t0 : Addr} {v : Value} (X : K.In s.heap) (hlim : s.heap.NoLimit) (hx : s.heap.get? x = some (excO C t0)) (hnx : K.lookup x = none)
    (hG : s.heap.Ns mainGlobals mg) (hB : s.heap.Ns builtinsNs mb) (hbb : mb "super" = some (.type "super")) (hroom : A.depth < recursionLimit)
    (hq : ∀ h' tk dx t1, IxEnd s.heap h' x C dx t1 v → R (.ok (.ret .none)) { s with heap := h', toks := tk }) :
    codeAny (model prog w) A (.call (.ref fI) ⟨[.ref x, v], []⟩) R s := by
  obtain ⟨q, oc, od, doc, pm, an, cda, cc, ct, osl, p1, p2, a1, a2, a3, a4, a5, a6, b1, b2, b3, b4, ho, hcd, hline, ⟨ccl, cdd, vs, ccs, file, tf, hco, hvs, hfile⟩, cl, cld, csl, hcell⟩ := T.fn
  obtain ⟨nm', q', N, bs, bm, sn, sub, ab, col, dd, k0, k1, k2, k3, k5, hC, hbm⟩ := T.cls
  have hcl : clsIn K C = some { name := nm', bases := bs, mro := .ref C :: bm, ns := N, qualname := q', hasDict := true, slotNames := sn, subclasses := sub, abstract := ab, collection := col, hasDel := false } := by unfold clsIn; rw [hC] <;> rfl
  refine ks_codeAny_call_defAt (fd := ksFn "__init__" q (argsI p1 p2) (bodyI a1 a2 a3 a4 a5 a6 b1 b2 b3 b4) scopeI .none .none doc pm an (.ref cda) ct cc) (body := bodyI a1 a2 a3 a4 a5 a6 b1 b2 b3 b4)
    (binds := [("self", .ref x), ("index", v)]) hroom (X _ _ ho) rfl hlim (codeRec_of X hcd) rfl (BindsTo.of_eq (by first | rfl | with_unfolding_all rfl)) (show ∀ x ∈ scopeI.names, x.2 ≠ .cell by decide) (locs (by first | rfl | decide | with_unfolding_all rfl)) (fun h₁ hn k₁ => ?_)
  have hxC : x ≠ C := fun z => by
    rw [z, hC] at hnx
    cases hnx
  obtain ⟨hp, gg, dr, tk, os⟩ := s
  dsimp only at X hlim hx hG hB hq hn k₁ ⊢
  have X₁ : K.In h₁ := X.keeps k₁
  have hx₁ := k₁ _ _ hx
  have hG₁ := hG.keeps k₁
  have hB₁ := hB.keeps k₁
  have hsz : hp.objs.size < h₁.objs.size := hn.lt
  refine ks_wpAt_execs_cons (ks_wpAt_Expr_any (ks_wpAt_MethodCall ?_ (super_call hline)))
  refine ks_wpAt_super_base rfl rfl rfl rfl (X₁ _ _ ho) rfl rfl rfl (X₁ _ _ hco) rfl hvs hfile T.main ?_
  refine ks_loadName_global rfl rfl (loadGlobal_builtin hG₁ T.noS hB₁ hbb ⟨rfl, ?_⟩)
  refine wpAny_loadName_free rfl rfl rfl ⟨_, X₁ _ _ hcell, rfl⟩ ?_
  refine wpAny_loadName_local rfl rfl hn (v := .ref x) (by first | rfl | with_unfolding_all rfl | kernel_rfl) ?_
  refine ks_wpAny_isType_cls (X₁ _ _ hC) rfl ⟨rfl, ?_⟩
  refine ks_wpAny_call_super (X₁ _ _ hC) rfl hx₁ rfl (fun c e => by cases e) (looks_mroIn X₁ T.own) (fun h₂ e₂ k₂ => ?_)
  have X₂ : K.In h₂ := X₁.keeps k₂
  have hI₂ : Looks (model prog w) h₂ (isInstance (.ref x) (.type "ValueError")) true :=
    (show Looks (model prog w) h₂ (typeOf (.ref x)) (.ref C) from fun A Q E s k q => wpAny_typeOf_ref (k _ _ (k₂ _ _ hx₁)) q).andThen (looks_subIn X₂ T.veC)
  have hm := T.sup
  unfold ks_superIn at hm
  rw [hcl] at hm
  refine kxs_getMethod kxs_ValueError e₂ (looks_opaque X₂ T.third) (l₀ := .ref C :: bm) (fun A Q E s k q => wpAny_bind ((looks_clsIn X₂ hcl) A _ E s k (wpAny_pure q))) rfl X₂ hm hI₂ hxC (by decide) ?_
  have k₃ : ∀ b o, h₂.get? b = some o → (h₂.push (kxs_mw "ValueError.__init__" x)).get? b = some o := fun b o e => Heap.get?_push_of_some _ e
  refine kxs_callWith (i := "ValueError.__init__") (x := x) rfl ?_
  refine evalArgs_plain ?_
  have hn₃ := (hn.keeps k₂).keeps k₃
  refine Calls.spliced_cons (wpAny_Name (wpAny_loadName_local (v := v) rfl rfl hn₃ (by first | rfl | with_unfolding_all rfl | kernel_rfl) (Calls.spliced_nil ⟨Heap.get?_push_size _ rfl, ?_⟩)) (by decide))
  refine call_mw (X₂.keeps k₃ _ _ hC) (k₃ _ _ (k₂ _ _ hx₁)) (Heap.get?_push_size _ rfl) (size1 v) (fun h₄ t1 k₄ hx₄ => ?_)
  have up : ∀ b o, b ≠ x → h₁.get? b = some o → h₄.get? b = some o := fun b o hb e => k₄ b o hb (k₃ _ _ (k₂ _ _ e))
  have X₄ : K.In h₄ := fun b o e => up b o (fun z => by rw [z, hnx] at e; cases e) (X₁ b o e)
  have hL : hp.objs.size ≠ x := Nat.ne_of_gt (Heap.lt_size hx)
  have hn₄ : h₄.Ns hp.objs.size (fun y => List.lookup y [(Str.ofString "self", Value.ref x), (Str.ofString "index", v)].reverse) := by
    obtain ⟨o, es, ep, e, r⟩ := hn
    exact ⟨o, es, ep, up _ _ hL e, r⟩
  show wpAt _ _ _ (execs _ _) _ _ _
  refine ks_wpAt_execs_cons (ks_wpAt_Assign_Attr ?_)
  refine wpAt_of_wpAny (wpAny_Name (wpAny_loadName_local (v := v) rfl rfl hn₄ (by first | rfl | with_unfolding_all rfl | kernel_rfl) ?_) (by decide))
  refine wpAny_Name (wpAny_loadName_local (v := .ref x) rfl rfl hn₄ (by first | rfl | with_unfolding_all rfl | kernel_rfl) ?_) (by decide)
  refine set_plain X₄ (ox := excO C t1) (od := none) ⟨hx₄, rfl, rfl, trivial⟩ T.sa ?_
  refine exc_osa X₄ hx₄ hcl (show refsVE (.ref C :: bm) = true from hbm) rfl T.noN (fun h₅ tk₅ dx k₅ dn dne hx₅ hn₅ => ?_)
  show wpAt _ _ _ (execs _ _) _ _ _
  refine wpAt_of_wpAny (wpAny_execs_nil (hq h₅ tk₅ dx t1 ⟨fun b o hb e => k₅ b o hb (up b o hb (k₁ b o e)), hx₅, ?_, dne, hn₅⟩))
  obtain ⟨oL, _, _, eL, _⟩ := hn₄
  exact Nat.le_trans (Nat.le_of_lt (Heap.lt_size eL)) dn
theorem ix_made (T : IxTxt prog K mg nm C fI) {v : Value} (X : K.In s.heap) (hlim : s.heap.NoLimit) (hG : s.heap.Ns mainGlobals mg) (hB : s.heap.Ns builtinsNs mb) (hbb : mb "super" = some (.type "super"))
    (hroom : A.depth + 1 < recursionLimit) (hq : ∀ h' tk e d, IxMade s.heap h' e C d v → R (.ok (.ret (.ref e))) { s with heap := h', toks := tk }) :
    codeAny (model prog w) A (.call (.ref C) ⟨[v], []⟩) R s := by
  obtain ⟨nm', q, N, bs, bm, sn, sub, ab, col, dd, k0, k1, k2, k3, k5, hC, hbm⟩ := T.cls
  obtain ⟨hp, g, dr, tk, os⟩ := s
  have k : ∀ b o, hp.get? b = some o → ((hp.push (kdv_tup [v])).push (excO C hp.objs.size)).get? b = some o := fun b o e => Heap.get?_push_of_some _ (Heap.get?_push_of_some _ e)
  have hget : ((hp.push (kdv_tup [v])).push (excO C hp.objs.size)).get? (hp.objs.size + 1) = some (excO C hp.objs.size) := by heap_get
  have hnx : K.lookup (hp.objs.size + 1) = none := by
    cases e : K.lookup (hp.objs.size + 1) with
    | none => rfl
    | some o => exact absurd (Nat.lt_of_succ_lt (Heap.lt_size (X _ _ e))) (Nat.lt_irrefl _)
  refine call_own F.excBase_ValueError (fun Y => refsVE_contains Y bm hbm) (X _ _ hC) (looks_findIn X T.iC) (fun self => bind_fn X self T.tI) (size1 v) ?_
  refine ix_init (s := ⟨(hp.push (kdv_tup [v])).push (excO C hp.objs.size), g, dr, tk, os⟩) T (X.keeps k) (hlim.keeps k) hget hnx (hG.keeps k) (hB.keeps k) hbb hroom fun h' tk' dx t1 ⟨k', hx, dn, dne, hns⟩ => ?_
  have old : ∀ b o, hp.get? b = some o → h'.get? b = some o := fun b o e => k' b o (Nat.ne_of_lt (Nat.lt_succ_of_lt (Heap.lt_size e))) (k b o e)
  have z : hp.objs.size + 1 + 1 ≤ dx := by
    have y := dn
    rw [Heap.size_push, Heap.size_push] at y
    exact y
  exact ⟨rfl, hq h' tk' (hp.objs.size + 1) dx ⟨old, Nat.le_succ _, ⟨_, _, hx, rfl, rfl, rfl, rfl⟩, Nat.le_trans (Nat.le_trans (Nat.le_succ _) (Nat.le_succ _)) z, dne, hns⟩⟩
end
end RvX
end PySem

namespace L2
open PySem PySem.Spec PyProof.Rows
theorem relO_ix {v : V} {v' : Value} (r : RelV v v') (f : Str) : RelO (List.lookup f [(("index" : Str), v)]) (if f = "index" then some v' else none) := by
  by_cases hw : f = "index"
  · subst hw
    rw [if_pos rfl]
    have q : List.lookup ("index" : Str) [(("index" : Str), v)] = some v := by simp [List.lookup]
    rw [q]
    exact r
  · rw [if_neg hw]
    have qw : (f == ("index" : Str)) = false := by simpa using hw
    have q2 : List.lookup f [(("index" : Str), v)] = none := by simp [List.lookup, qw]
    rw [q2]
    trivial
/-- an exception's dict that tells its index -/
abbrev ixD (v : V) : HO := .xd [(("index" : Str), v)]
section
variable {X : Cx} {C fI : Addr} {nm : Str}
/-- C(e), C an error with an index -/
def tMkIx (C : Addr) (ta : TA) : St → Hp → XK → Prop := fun σ H Q => ta σ H fun vs H1 => ∃ v, vs = [v] ∧ ∀ d, H1 d = none → Q (.ref C) (some d) (upd H1 d (ixD v))
theorem super_boot : bootBuiltins ("super" : Str) = some (.type "super") := by first | rfl | kernel_rfl | decide +kernel
theorem pmk_ix {a : Expr} {ta : TA} {p pos : Pos} {k : Nat} (T : PySem.RvX.IxTxt X.prog X.K X.mg nm C fI) (hr : Room k X.A) (ha : PA X [a] ta) (hg : Gl X nm) (hdb : (nm == ("__debug__" : Str)) = false)
    (he : starEach (a :: []) X.env = (false, eval a X.env) :: starEach [] X.env := by rfl) (hpl : (backTo pos (starEach [] X.env)).any (·.1) = false := by rfl) :
    PMk X (.Call (.Name nm p) [a] [] pos) (tMkIx C ta) := by
  intro pins s σ H Q I h
  refine wpAny_Call_Name_kw (ld_glob I hg T.gC ?_ hdb)
  refine PySem.W.callWith_K (h₀ := X.base) I.ok.mod.kin T.kC (thn (ha.run pos pins s σ H _ I h) fun us s1 hh => ?_) he hpl
  obtain ⟨vs, H1, I1, r1, v, ev, q1⟩ := hh
  subst ev
  refine ⟨I1.kIn, ?_⟩
  cases r1 with
  | cons rv rn =>
    rename_i v' us'
    cases rn
    show wpAny _ _ (call (.ref C) [v']) _ _ _
    have hlim := I1.nolimit
    have hG := I1.mod.glob.keeps I1.bk
    obtain ⟨mb, hB0, hbb⟩ := I1.mod.blt
    have hB := hB0.keeps I1.bk
    obtain ⟨hp, g, dr, tk, os⟩ := s1
    refine wpAny_call (PySem.RvX.ix_made (mb := mb) T I1.kIn hlim hG hB ((hbb _ (by decide)).trans super_boot) (by have := hr.dp; omega) fun h' tk' e d M => ?_)
    show MkP X pins σ Q (.ref e) ⟨h', g, dr, tk', os⟩
    obtain ⟨oe, fv, hoe, hc, hd, hdat, h1⟩ := M.obj
    have hns := M.ns
    obtain ⟨G', g1, g2⟩ := restrict h' fun b => decide (b ≠ e)
    have gk : ∀ b, b ≠ e → G'.get? b = h'.get? b := fun b hb => g1 b (decide_eq_true hb)
    have ge : G'.get? e = none := g2 e (by simp)
    have old : ∀ b o, hp.get? b = some o → G'.get? b = some o := fun b o q => (gk b (Nat.ne_of_lt (Nat.lt_of_lt_of_le (Heap.lt_size q) M.new))).trans (M.keep b o q)
    have ob : ObjOk X.prog X.w (upd H1 d (ixD v)) G' d (ixD v) := ⟨_, hns.at (fun o q => (gk d M.dne).trans q), fun f => relO_ix rv f⟩
    have J : Inv X pins σ (upd H1 d (ixD v)) ⟨G', g, dr, tk', os⟩ := I1.laid (t' := tk') old M.dbig ob
    refine ⟨e, oe, fv, ⟨G', g, dr, tk', os⟩, _, .ref C, some d, rfl, J, fun b o q => ?_, ge, hoe, ⟨hc, hd⟩, hdat, h1, ?_, rfl, I1.bare, raises_own T.exC T.tyC, q1 d (I1.hok.fresh M.dbig)⟩
    · by_cases hb : b = e
      · have q' : G'.get? b = some o := q
        rw [hb, ge] at q'
        cases q'
      · exact (gk b hb).symm.trans q
    · rw [upd_ne (Ne.symm M.dne)]
      exact I1.hok.fresh M.new
/-- X(), X an own error without an __init__ of its own -/
theorem pmk_own0 {bmB : List Value} {B newId initId : String} {x : Str} {p pos : Pos} (F : ExcBaseFacts B newId initId bmB) (q : PySem.W.excIn X.K C bmB newId = true) (gC : X.mg x = some (.ref C))
    (kC : PySem.W.keepIn X.K (.ref C) = true) (r : Raises X (.ref C)) (hg : Gl X x) (hdb : (x == ("__debug__" : Str)) = false) :
    PMk X (.Call (.Name x p) [] [] pos) (fun σ H Q => Q (.ref C) none H) := by
  intro pins s σ H Q I h
  refine wpAny_Call_Name_kw (ld_glob I hg gC ?_ hdb)
  refine PySem.W.callWith_K0 I.kIn kC ?_
  show wpAny _ _ (call (.ref C) []) _ _ _
  obtain ⟨bm, N, nm, qn, bs, hdct, sn, sub, ab, col, dd, k0, k1, k2, k3, k5, mN, hC, hN, hni, T⟩ := exc_obj I.kIn q
  refine wpAny_call_exc_subT F T hC hN hni (fun h' e hm => ?_) (Nat.zero_le _)
  exact mk_of I hm r h (I.hok.gone hm.new)
end
/-! ### isinstance of the caught error -/
/-- what an error class must say that isinstance asks its instances rightly -/
structure ExK (K : PySem.W.Frag) (D : Addr) : Prop where
  cl : PySem.W.isClsIn K D = true
  ga : PySem.W.findIn K (.ref D) "__getattribute__" = some (some (.builtin "BaseException.__getattribute__"))
  gg : PySem.W.findIn K (.ref D) "__getattr__" = some none
  ex : PySem.W.subIn K (.ref D) (.type "BaseException") = some true
  ha : PySem.W.findIn K (.ref D) "__class__" = some (some (.builtin "object.__class__"))
  hn : PySem.W.specialIn K (.builtin "object.__class__") "__get__" = some (some (.builtin "getset_descriptor.__get__"))
  ht : PySem.W.takesIn K (.builtin "object.__class__") = some true
  hm : PySem.W.mroIn K D (.type "object") = some true
  ty : PySem.W.typeIn K (.ref D) = some (.type "type")
  hd : PySem.W.hasDictIn K D = true
/-- an instance of D asked for the class at C -/
theorem ExK.one {K : PySem.W.Frag} {D C : Addr} {b : Bool} (c : ExK K C) (h : PySem.W.subIn K (.ref D) (.ref C) = some b) (hne : D = C → b = true) : PySem.W.kitOne K (.ref D) (.ref C) = some b := by
  unfold PySem.W.kitOne
  by_cases e : D = C
  · subst e
    rw [if_pos (by simp), hne rfl]
  · have e2 : ((Value.ref D) == (Value.ref C)) = false := by simpa using e
    rw [e2, if_neg Bool.false_ne_true]
    unfold PySem.W.kitCls
    have h2 : (PySem.W.clsIn K C).isSome = true := c.cl
    have e3 : ((PySem.W.clsIn K C).isSome && PySem.W.typeIn K (.ref C) == some (.type "type")) = true := by rw [h2, c.ty] <;> rfl
    show (if ((PySem.W.clsIn K C).isSome && PySem.W.typeIn K (.ref C) == some (.type "type")) = true then PySem.W.subIn K (.ref D) (.ref C) else none) = some b
    rw [if_pos e3]
    exact h
/-- .. in an except clause -/
theorem ExK.exm {K : PySem.W.Frag} {C : Addr} {cls : Value} {b : Bool} (c : ExK K C) (h : PySem.W.subIn K cls (.ref C) = some b) : PySem.W.exmOne K cls (.ref C) = some b := by
  have e1 : (PySem.W.subIn K (.ref C) (.type "BaseException") == some true) = true := by rw [c.ex] <;> rfl
  have h2 : (PySem.W.clsIn K C).isSome = true := c.cl
  have e2 : ((PySem.W.clsIn K C).isSome && PySem.W.typeIn K (.ref C) == some (.type "type")) = true := by rw [h2, c.ty] <;> rfl
  show (if (PySem.W.subIn K (.ref C) (.type "BaseException") == some true) = true then (if ((PySem.W.clsIn K C).isSome && PySem.W.typeIn K (.ref C) == some (.type "type")) = true then PySem.W.subIn K cls (.ref C) else none) else none) = some b
  rw [if_pos e1, if_pos e2]
  exact h
/-- its dict: none, or one that is tracked -/
def DictT (d : Option Addr) (H : Hp) : Prop := d = none ∨ ∃ (dd : Addr) (fs : List (Str × V)), d = some dd ∧ H dd = some (.xd fs)
def rIsX (K : PySem.W.Frag) (D a : Addr) (d : Option Addr) : List V → Hp → VK → Prop := fun xs H Q => ∃ (C : Addr) (b : Bool), xs = [.ref a, .ref C] ∧ DictT d H ∧ PySem.W.kitOne K (.ref D) (.ref C) = some b ∧ Q (.bl b) H
def rIsXT (K : PySem.W.Frag) (D a : Addr) (d : Option Addr) : List V → Hp → VK → Prop := fun xs H Q => ∃ (tp C1 C2 : Addr) (b1 b2 : Bool), xs = [.ref a, .ref tp] ∧ H tp = some (.tup [.ref C1, .ref C2]) ∧ DictT d H ∧
  PySem.W.kitOne K (.ref D) (.ref C1) = some b1 ∧ PySem.W.kitOne K (.ref D) (.ref C2) = some b2 ∧ Q (.bl (b1 || b2)) H
section
variable {X : Cx} {a D : Addr} {oe : Obj} {d : Option Addr} {pn : List (Addr × Obj)}
theorem inst_caught {pins : List (Addr × Obj)} {σ : St} {H : Hp} {s : Shared} (hz : Zc (.ref D) d oe) (hf : ∃ vs, oe.data = .fields vs) (I : Inv (X.suite a ((a, oe) :: pn)) pins σ H s) (hd : DictT d H) :
    ∃ od, PySem.W.InstAt s.heap a oe D od := by
  obtain ⟨hget, _⟩ := I.pin (a, oe) (List.mem_append.mpr (.inl List.mem_cons_self))
  obtain ⟨vs, hv⟩ := hf
  obtain ⟨h1, h2⟩ := hz
  have no : PySem.W.notCls oe = true := by
    unfold PySem.W.notCls
    rw [hv] <;> rfl
  rcases hd with hd | ⟨dd, fs, hd, hx⟩
  · exact ⟨none, hget, h1, no, by rw [h2, hd]; trivial⟩
  · obtain ⟨mA, ⟨od, es, ep, ho, _⟩, _⟩ := (show ObjOk X.prog X.w H s.heap dd (.xd fs) from I.hok dd _ hx)
    exact ⟨some od, hget, h1, no, by rw [h2, hd]; exact ho⟩
theorem kit_caught {od : Option Obj} (C : ExK X.K D) : PySem.W.KitX X.K (.ref a) (.ref D) (fun h => PySem.W.InstAt h a oe D od) :=
  PySem.W.kitx_exc C.cl C.ga C.gg C.ex C.ha C.hn C.ht C.hm
theorem call_isX (C : ExK X.K D) (hz : Zc (.ref D) d oe) (hf : ∃ vs, oe.data = .fields vs) : CallR (X.suite a ((a, oe) :: pn)) (.builtin "isinstance") (rIsX X.K D a d) := by
  intro pins s σ H xs us Q I r h
  obtain ⟨C', b, rfl, hd, e, q⟩ := h
  obtain ⟨u1, u2, rfl, r1, r2⟩ := vals2 r
  cases (show u1 = Value.ref a from r1)
  cases (show u2 = Value.ref C' from r2)
  obtain ⟨od, J⟩ := inst_caught hz hf I hd
  exact PySem.W.kia_one (kit_caught C) I.kIn J e (fun z => nomatch z) fun tk => ⟨.bl b, H, I.tok tk, rfl, q⟩
theorem call_isXT (C : ExK X.K D) (hz : Zc (.ref D) d oe) (hf : ∃ vs, oe.data = .fields vs) : CallR (X.suite a ((a, oe) :: pn)) (.builtin "isinstance") (rIsXT X.K D a d) := by
  intro pins s σ H xs us Q I r h
  obtain ⟨tp, C1, C2, b1, b2, rfl, hT, hd, e1, e2, q⟩ := h
  obtain ⟨u1, u2, rfl, r1, r2⟩ := vals2 r
  cases (show u1 = Value.ref a from r1)
  cases (show u2 = Value.ref tp from r2)
  obtain ⟨od, J⟩ := inst_caught hz hf I hd
  obtain ⟨_, its, rv, o, h1, h2, n, h3⟩ := (show ObjOk X.prog X.w H s.heap tp (.tup [.ref C1, .ref C2]) from I.hok tp _ hT)
  have e3 := ClsV.all (.cons (.own C1) (.cons (.own C2) .nil)) rv
  subst e3
  obtain ⟨oc, odd, dt, sl⟩ := o
  simp only at h2 h3
  subst h2 h3
  have e : PySem.W.kitAny X.K (.ref D) [.ref C1, .ref C2] = some (b1 || b2) := by
    refine kitAny_cons e1 (fun hb => ?_) (fun hb => by rw [hb, Bool.true_or])
    rw [hb, Bool.false_or]
    refine kitAny_cons e2 (fun hb2 => ?_) (fun hb2 => hb2)
    rw [hb2]
    exact kitAny_nil
  exact PySem.W.kia_tup (kit_caught C) I.kIn J h1 e (fun z => nomatch z) fun tk => ⟨.bl (b1 || b2), H, I.tok tk, rfl, q⟩
end
/-- xs.count(y), flat items -/
def rCntV (K : PySem.W.Frag) : V → List V → Hp → VK → Prop := fun x xs H Q => ∃ (p : Addr) (ys : List V) (y : V), x = .ref p ∧ xs = [y] ∧ SqL K H p ys ∧ flatV y = true ∧ ys.all flatV = true ∧ Q (.int (ys.countP (fun z => eqV z y) : Nat)) H
theorem countP_eqU {x : V} : ∀ {xs : List V} {us : List Value}, Vals xs us → xs.all flatV = true → us.countP (eqU x) = xs.countP fun y => eqV y x
  | _, _, .nil, _ => rfl
  | y :: xs, u :: us, .cons r t, f => by
    rw [List.all_cons, Bool.and_eq_true] at f
    rw [List.countP_cons, List.countP_cons, eqU_of r f.1, countP_eqU t f.2]
theorem mt_countV {X : Cx} : MtR X "list.count" (rCntV X.K) := by
  intro pins s σ H x xs v us Q I rx rxs h
  obtain ⟨p, ys, y, rfl, rfl, hs, fy, fys, q⟩ := h
  cases rx
  obtain ⟨u, rfl, ru⟩ := rxs.one
  obtain ⟨its, rv, ⟨⟨cls, dd, data, sl⟩, n, ho, hc, hdn, hd⟩, hlen⟩ := I.list hs
  simp only at hc hd
  subst hc hd
  refine call_meets PySem.F.slot_list_count ⟨_, ho, rfl⟩ PySem.F.entry_list_count (PySem.F.args_list_count_2 _ _)
    (SeqAt.list_countAt p its.toArray n dd sl u (eqU y)) ⟨ho, fun u' hu' => mem_eqAt ru fy rv fys u' (by simpa using hu'), ?_⟩
  refine ⟨.int (ys.countP (fun z => eqV z y) : Nat), H, I.tok _, ⟨s.toks, ?_⟩, q⟩
  rw [← countP_eqU rv fys]
end L2

/-! ## RvLam -/
/-! Lambdas (no parameter, or one with a default) made in a def, held by lists, handed to a def that calls them. -/
namespace RvL
open PySem PySem.Spec PyProof.Rows L2 LamX
/-- a lambda's text -/
structure LamD where
  params : Arguments
  body : Expr
  scope : Scope
/-- what is asked of it: N the maker's names, sc the maker's scope -/
structure LamOk (N : List Str) (sc : Scope) (d : LamD) : Prop where
  kind : d.scope.kind = .function
  co : d.scope.isCoroutine = false
  gen : d.scope.isGenerator = false
  own : ∀ y ∈ d.scope.names, y.2 ≠ .cell ∧ (y.2 = .local → y.1 ∉ N)
  free : ∀ y ∈ d.scope.names, y.2 = .free → sc.names.lookup y.1 = some .cell ∨ sc.names.lookup y.1 = some .free
/-- how a call without arguments binds: no parameter; or one, from the default's tuple -/
inductive LamB (d : LamD) : Prop where
  | none (hd : d.params.defaults = []) (hk : d.params.kw_defaults = [])
      (h : ∀ (q : Str) (cl : List (Str × Addr)) (doc pm cv ctv : Value), bindArgs (PySem.W.kdv_fn "<lambda>" q d.params (.expr d.body) d.scope cl .none doc pm cv ctv) ⟨[], []⟩ = pure [])
  | one (a : Str) (j : Nat) (pz : Pos) (hd : d.params.defaults = [.Constant (.int 0) j pz]) (hk : d.params.kw_defaults = []) (hl : d.scope.names.lookup a = some .local)
      (h : ∀ (q : Str) (cl : List (Str × Addr)) (t0 : Addr) (doc pm cv ctv : Value), ∃ k : Option (Array Value) → Sem (List (Str × Value)),
        bindArgs (PySem.W.kdv_fn "<lambda>" q d.params (.expr d.body) d.scope cl (.ref t0) doc pm cv ctv) ⟨[], []⟩ = seqItems? (.ref t0) >>= k ∧ ∀ u : Value, k (some #[u]) = pure [(a, u)])
theorem LamOk.has {X : Cx} {d : LamD} (L : LamOk X.N X.env.scope d) (ok : X.Ok) : ∀ y ∈ d.scope.names, y.2 = .free → ∃ c, X.env.cells.lookup y.1 = some c := fun y hy e =>
  (L.free y hy e).elim (fun k => ok.has _ (.inl k)) fun k => ok.has _ (.inr k)
/-- the function object at f, told of the heap -/
def LamO (f : Addr) (q : Str) (d : LamD) (cl : List (Str × Addr)) (dV : Value) (c' : Addr) : HO :=
  .ext fun h => ∃ doc pm ctv : Value, h.get? f = some (PySem.W.kdv_obj "<lambda>" q d.params (.expr d.body) d.scope cl dV doc pm c' ctv)
theorem lamO_ok {P : Program} {w : World} {H : Hp} {h : Heap} {f : Addr} {q : Str} {d : LamD} {cl : List (Str × Addr)} {dV doc pm ctv : Value} {c' : Addr}
    (e : h.get? f = some (PySem.W.kdv_obj "<lambda>" q d.params (.expr d.body) d.scope cl dV doc pm c' ctv)) : ObjOk P w H h f (LamO f q d cl dV c') :=
  ⟨⟨doc, pm, ctv, e⟩, ⟨_, e⟩, fun h1 h2 z st => by
    obtain ⟨x, y, u, g⟩ := z
    exact ⟨x, y, u, st _ g⟩⟩
theorem lamO_at {P : Program} {w : World} {H : Hp} {h : Heap} {f : Addr} {q : Str} {d : LamD} {cl : List (Str × Addr)} {dV : Value} {c' : Addr} (hok : HOk P w H h) (e : H f = some (LamO f q d cl dV c')) :
    ∃ doc pm ctv : Value, h.get? f = some (PySem.W.kdv_obj "<lambda>" q d.params (.expr d.body) d.scope cl dV doc pm c' ctv) := by
  have x : ObjOk P w H h f (.ext fun h => ∃ doc pm ctv : Value, h.get? f = some (PySem.W.kdv_obj "<lambda>" q d.params (.expr d.body) d.scope cl dV doc pm c' ctv)) := hok f _ e
  exact x.1
theorem lamO_ne {f : Addr} {q : Str} {d : LamD} {cl : List (Str × Addr)} {dV : Value} {c' : Addr} (ps : Array Value) : LamO f q d cl dV c' ≠ .tbl ps := fun z => by
  unfold LamO at z
  cases z
/-- its defaults' tuple -/
def DfAt (H : Hp) (d : LamD) (dV : Value) : Prop := (d.params.defaults = [] ∧ dV = .none) ∨ (d.params.defaults ≠ [] ∧ ∃ t0 : Addr, dV = .ref t0 ∧ H t0 = some (.tup [.int 0]))
/-- the lambda d stands at f, made in the frame env -/
def LamAt (env : Env) (H : Hp) (d : LamD) (f : Addr) : Prop := ∃ (c' : Addr) (dV : Value), H f = some (LamO f (env.qual ++ "<lambda>") d (cloFrom env.cells d.scope.names []) dV c') ∧
  H c' = some (CodeO c' (env.qual ++ "<lambda>")) ∧ DfAt H d dV
theorem LamAt.ext {env : Env} {H H' : Hp} {d : LamD} {f : Addr} (a : LamAt env H d f) (e : ExtN H H') : LamAt env H' d f := by
  obtain ⟨c', dV, h1, h2, h3⟩ := a
  refine ⟨c', dV, e _ _ h1 lamO_ne, e _ _ h2 codeO_ne, ?_⟩
  rcases h3 with h3 | ⟨h3, t0, h4, h5⟩
  · exact .inl h3
  · exact .inr ⟨h3, t0, h4, e _ _ h5 fun ps z => by cases z⟩
/-- a lambda's reading: T the tables -/
def tLamE (env : Env) (T : List (Addr × Str)) (d : LamD) : TE := fun _ H Q => Tabs T H ∧ ∀ f H1, ExtN H H1 → Tabs T H1 → LamAt env H1 d f → Q (.ref f) H1
section
variable {X : Cx} {pins : List (Addr × Obj)} {σ : L2.St} {H : Hp} {s : Shared}
/-- a new object laid and tracked keeps what stood -/
theorem extN_upd {a : Addr} {o : HO} (n : H a = none) : ExtN H (upd H a o) := fun b u e _ => by
  rw [upd_ne (ne_of_none e n)]
  exact e
theorem tabs_upd {T : List (Addr × Str)} {a : Addr} {o : HO} (t : Tabs T H) (n : H a = none) : Tabs T (upd H a o) := t.ext fun b u e => by
  rw [upd_ne (ne_of_none e n)]
  exact e
/-- the function object is made: its code object is new, or found in the table -/
theorem lam_tail {T : List (Addr × Str)} {c P : Addr} {d : LamD} {dV : Value} {pos : Pos} {Q : VK} (I : Inv X pins σ H s) (L : LamOk X.N X.env.scope d) (TB : TabB X.base X.mg c P) (hcode : X.env.code = .ref c)
    (hm : (P, X.env.qual ++ "<lambda>") ∈ T) (hu : ∀ p ∈ T, p.1 = P → p.2 = X.env.qual ++ "<lambda>") (hT : Tabs T H) (hD : DfAt H d dV)
    (h : ∀ f H1, ExtN H H1 → Tabs T H1 → LamAt X.env H1 d f → Q (.ref f) H1) :
    wpAny (model X.prog X.w) X.A (makeTail "<lambda>" (X.env.qual ++ "<lambda>") d.params (.expr d.body) d.scope X.env dV .none none pos pos.line) (EP X pins σ Q) X.xe s := by
  obtain ⟨ps, hP, ht, ha⟩ := hT _ hm
  have hfree := L.has I.ok
  have glob := I.mod.glob.keeps I.bk
  have atP : s.heap.get? P = some { cls := .none, data := .fields ps } := I.hok P _ hP
  have dfKeep : ∀ {H1 : Hp}, ExtN H H1 → DfAt H1 d dV := fun {H1} e => by
    rcases hD with z | ⟨z, t0, z1, z2⟩
    · exact .inl z
    · exact .inr ⟨z, t0, z1, e _ _ z2 fun ps z => by cases z⟩
  cases hc : codeAmong pos ps.toList with
  | none =>
    refine PySem.W.kdv_makeTail (dV := dV) (mg := X.mg) (c := c) (P := P) (ps := ps) (closure_ok hfree) I.ok.glob glob hcode (TB.code.keeps I.bk) atP ht hc TB.gP (TB.bm.keeps I.bk) fun c' ctv doc h' tk hx hge hlt hrec htb => ?_
    obtain ⟨c2, oc, vs, t, e2, hoc, hdt, hv⟩ := hrec
    cases e2
    have nC : H c' = none := I.hok.fresh hge
    have I1 := inv_table (t' := tk) (more := #[rawInt pos.line, rawInt pos.col, .ref c']) (h' := h') I hP hx htb hge ⟨oc, vs, t, hoc, hdt, hv⟩
    have hE : ExtN H (upd (upd H P (.tbl (ps ++ #[rawInt pos.line, rawInt pos.col, .ref c']))) c' (CodeO c' (X.env.qual ++ "<lambda>"))) := fun b o e n => by
      rw [upd_ne (ne_of_none e nC), upd_ne (fun z => n ps (Option.some.inj (e.symm.trans (by rw [z]; exact hP))))]
      exact e
    have eL : (ps ++ #[rawInt pos.line, rawInt pos.col, .ref c']).toList = ps.toList ++ [rawInt pos.line, rawInt pos.col, .ref c'] := by simp
    have hT1 : Tabs T (upd (upd H P (.tbl (ps ++ #[rawInt pos.line, rawInt pos.col, .ref c']))) c' (CodeO c' (X.env.qual ++ "<lambda>"))) := fun p hp => by
      by_cases hb : p.1 = P
      · rw [hu p hp hb, hb]
        refine ⟨_, by rw [upd_ne (ne_of_none hP nC), upd_same], by rw [eL]; exact PySem.TriplesOk_snoc _ _ _ _ ht, fun p' cv hcv => ?_⟩
        rw [eL] at hcv
        rcases among_app _ ht hcv with z | z
        · obtain ⟨c0, e1, e2⟩ := ha p' cv z
          exact ⟨c0, e1, hE _ _ e2 codeO_ne⟩
        · exact ⟨c', z, upd_same⟩
      · obtain ⟨ps', a1, a2, a3⟩ := hT p hp
        refine ⟨ps', by rw [upd_ne (ne_of_none a1 nC), upd_ne hb]; exact a1, a2, fun p' cv hcv => ?_⟩
        obtain ⟨c0, e1, e2⟩ := a3 p' cv hcv
        exact ⟨c0, e1, hE _ _ e2 codeO_ne⟩
    have nF : (upd (upd H P (.tbl (ps ++ #[rawInt pos.line, rawInt pos.col, .ref c']))) c' (CodeO c' (X.env.qual ++ "<lambda>"))) h'.objs.size = none := I1.hok.fresh (Nat.le_refl _)
    have I2 := I1.laid (t' := tk) (a := h'.objs.size) (o := LamO h'.objs.size (X.env.qual ++ "<lambda>") d (cloFrom X.env.cells d.scope.names []) dV c')
      (h' := h'.push (PySem.W.kdv_obj "<lambda>" (X.env.qual ++ "<lambda>") d.params (.expr d.body) d.scope (cloFrom X.env.cells d.scope.names []) dV doc ((X.mg "__name__").getD .none) c' ctv))
      (fun b o e => Heap.get?_push_of_some _ e) (Nat.le_refl _) (lamO_ok (Heap.get?_push_size _ rfl))
    have hE2 := hE.trans (extN_upd (o := LamO h'.objs.size (X.env.qual ++ "<lambda>") d (cloFrom X.env.cells d.scope.names []) dV c') nF)
    refine ⟨.ref h'.objs.size, _, I2, rfl, h _ _ hE2 (tabs_upd hT1 nF) ⟨c', dV, upd_same, ?_, dfKeep hE2⟩⟩
    rw [upd_ne (ne_of_none upd_same nF)]
    exact upd_same
  | some cv =>
    obtain ⟨c', e, hco⟩ := ha pos cv hc
    subst e
    refine PySem.W.kdv_makeTailHit (dV := dV) (mg := X.mg) (c := c) (P := P) (ps := ps) (closure_ok hfree) I.ok.glob glob hcode (TB.code.keeps I.bk) atP ht hc (TB.bm.keeps I.bk) fun ctv doc h' tk hx hsz => ?_
    have I1 : Inv X pins σ H { s with heap := h', toks := tk } := I.kept hx
    have nF : H h'.objs.size = none := I1.hok.fresh (Nat.le_refl _)
    have I2 := I1.laid (t' := tk) (a := h'.objs.size) (o := LamO h'.objs.size (X.env.qual ++ "<lambda>") d (cloFrom X.env.cells d.scope.names []) dV c')
      (h' := h'.push (PySem.W.kdv_obj "<lambda>" (X.env.qual ++ "<lambda>") d.params (.expr d.body) d.scope (cloFrom X.env.cells d.scope.names []) dV doc ((X.mg "__name__").getD .none) c' ctv))
      (fun b o e => Heap.get?_push_of_some _ e) (Nat.le_refl _) (lamO_ok (Heap.get?_push_size _ rfl))
    have hE2 := extN_upd (o := LamO h'.objs.size (X.env.qual ++ "<lambda>") d (cloFrom X.env.cells d.scope.names []) dV c') nF
    exact ⟨.ref h'.objs.size, _, I2, rfl, h _ _ hE2 (tabs_upd hT nF) ⟨c', dV, upd_same, hE2 _ _ hco codeO_ne, dfKeep hE2⟩⟩
theorem pe_lam {T : List (Addr × Str)} {c P : Addr} {d : LamD} {pos : Pos} (L : LamOk X.N X.env.scope d) (B : LamB d) (TB : TabB X.base X.mg c P) (hcode : X.env.code = .ref c)
    (hm : (P, X.env.qual ++ "<lambda>") ∈ T) (hu : ∀ p ∈ T, p.1 = P → p.2 = X.env.qual ++ "<lambda>") : PE X (.Lambda d.params d.body d.scope pos) (tLamE X.env T d) := by
  refine ⟨fun pins s σ H Q I h => ?_⟩
  obtain ⟨hT, h⟩ := h
  cases B with
  | none hd hk hb =>
    refine PySem.W.kla_eval (by rw [PySem.defaultsOf_eq, hd, hk]; rfl) ?_
    rw [makeFunction_eq]
    simp only [List.zip_nil_right, List.filterMap_nil, List.isEmpty_nil, if_true, pure_bind]
    exact lam_tail I L TB hcode hm hu hT (.inl ⟨hd, rfl⟩) h
  | one a j pz hd hk hl hb =>
    refine PySem.W.kdv_lam (by rw [hd]; rfl) hk ?_
    rw [hd]
    refine PySem.W.kdv_all1 (wpAny_Constant_int (PySem.W.kdv_all0 ?_))
    have I1 := I.tok (s.toks + 1)
    rw [makeFunction_eq]
    simp only [List.zip_nil_right, List.filterMap_nil, List.isEmpty_nil, if_true, pure_bind, List.isEmpty_cons, Bool.false_eq_true, if_false]
    refine wpAny_bind (wpAny_newTextTuple ?_)
    have nT : H s.heap.objs.size = none := I.hok.fresh (Nat.le_refl _)
    have I2 := I1.laid (t' := s.toks + 1) (a := s.heap.objs.size) (o := .tup [.int 0]) (h' := s.heap.push (PySem.W.kdv_tup [.int 0 s.toks])) (fun b o e => Heap.get?_push_of_some _ e) (Nat.le_refl _)
      ⟨by show 1 ≤ sizeLine; rw [sizeLine_eq]; decide, [.int 0 s.toks], .cons ⟨_, rfl⟩ .nil, ⟨_, Heap.get?_push_size _ rfl, rfl, _, rfl⟩⟩
    have hE := extN_upd (o := .tup [.int 0]) nT
    refine lam_tail I2 L TB hcode hm hu (tabs_upd hT nT) (.inr ⟨by rw [hd]; simp, _, rfl, upd_same⟩) fun f H1 e1 t1 l1 => h f H1 (hE.trans e1) t1 l1
end
/-! ### the call, in the def that got the lambda -/
section
variable {X : Cx} {pins : List (Addr × Obj)} {σ : L2.St} {H HZ : Hp} {s s1 : Shared}
/-- the body's context holds at its entry: captured names stand in the maker's cells -/
theorem lam_begin {A : Around} {outer : List Env} {E : XK} {d : LamD} {f c' : Addr} {h₁ : Heap} {tk : Nat} {mL : Str → Option Value} (I : Inv X pins σ H s) (L : LamOk X.N X.env.scope d) (e0 : Env0 X.prog X.w X.K X.mg X.base A outer s1 HZ) (hd : A.handled = none)
    (un : Un (frs X.stack) [] H HZ s.heap s1.heap) (hns : h₁.Ns s1.heap.objs.size mL) (kp : ∀ b o, s1.heap.get? b = some o → h₁.get? b = some o) :
    Inv (lamCx X A outer s1 HZ E d.scope f c') [] σ HZ { s1 with heap := h₁, toks := tk } := by
  have cap := L.has I.ok
  have back : ∀ {y c}, (cloFrom X.env.cells d.scope.names []).lookup y = some c → X.env.cells.lookup y = some c := fun {y c} e => by
    rcases cloFrom_mem (PySem.mem_of_lookup e) with hm | ⟨h1, h2⟩
    · cases hm
    · obtain ⟨c1, hc⟩ := cap _ h1 rfl
      have hc : X.env.cells.lookup y = some c1 := hc
      have e2 : c = c1 := by rw [h2, hc] <;> rfl
      rw [e2]
      exact hc
  have look : ∀ {y}, d.scope.names.lookup y = some .free → ∃ c, (cloFrom X.env.cells d.scope.names []).lookup y = some c := fun {y} hl =>
    mem_lookup (cloFrom_has (cells := X.env.cells) (acc := []) (PySem.mem_of_lookup hl : (y, NameKind.free) ∈ d.scope.names))
  have cellK : ∀ {c : Addr} {v : Option Value}, H c = none → s.heap.IsCell c v → h₁.IsCell c v := fun {c v} n ⟨o, ho, hd⟩ => by
    obtain ⟨sl, q⟩ := un.any ho n (by simp)
    exact ⟨_, kp _ _ q, hd⟩
  have exN : ∀ b : Addr, b ∉ (lamCx X A outer s1 HZ E d.scope f c').ex := fun b z => absurd (show b ∈ ([] : List Addr) from z) (by simp)
  refine ⟨⟨e0.mod, L.kind, rfl, rfl, Nat.le_refl _, fun y z c e1 e2 => I.ok.inj y z c (back e1) (back e2), fun y hy => ?_, fun y c z _ => ?_, fun _ => hd, Around.frames_deeper e0.frames, .inr ⟨rfl, rfl⟩, fun b z => absurd z (exN b), e0.bs, e0.bsz, fun b _ _ => exN b, fun b z => absurd z (exN b), e0.funs, e0.frf⟩,
    rfl, e0.bare, Un.kept kp, ⟨_, hns, fun i y v e1 e2 e3 => ?_⟩, fun y c e => ?_, e0.hok.fresh (Nat.le_refl _), fun y c e => ?_, fun q hq => absurd (show q ∈ ([] : List (Addr × Obj)) ++ [] from hq) (by simp), e0.hok.kept kp, I.len⟩
  · have hy : d.scope.names.lookup y = some .cell ∨ d.scope.names.lookup y = some .free := hy
    rcases hy with hy | hy
    · exact absurd rfl (L.own _ (PySem.mem_of_lookup hy)).1
    · exact look hy
  · have z : false = true := z
    cases z
  · have e3 : Vis d.scope y := e3
    rcases e3 with k | k | k
    · exact absurd (List.mem_of_getElem? (show X.N[i]? = some y from e1)) ((L.own _ (PySem.mem_of_lookup k)).2 rfl)
    · exact absurd rfl (L.own _ (PySem.mem_of_lookup k)).1
    · obtain ⟨m, hn, hl⟩ := I.loc
      have vis : Vis X.env.scope y := (L.free _ (PySem.mem_of_lookup k) rfl).elim (fun k => .inr (.inl k)) fun k => .inr (.inr k)
      obtain ⟨w', r, q⟩ := hl i y v e1 e2 vis
      obtain ⟨c2, h2⟩ := look k
      refine ⟨w', r, .inr ⟨.inr k, c2, h2, ?_⟩⟩
      have c1 := back h2
      rcases q with ⟨k', _⟩ | ⟨_, c3, e', z⟩
      · have k' : X.env.scope.names.lookup y = some .local := k'
        rcases L.free _ (PySem.mem_of_lookup k) rfl with k2 | k2 <;> rw [show X.env.scope.names.lookup y = _ from k2] at k' <;> cases k'
      · rw [c1] at e'
        cases e'
        exact cellK (I.freeC y _ c1) z
  · obtain ⟨w', z⟩ := I.cell y c (back e)
    exact ⟨w', cellK (I.freeC y c (back e)) z⟩
  · obtain ⟨v, o, ho, hd⟩ := I.cell y c (back e)
    exact un.free c o ho (I.freeC y c (back e)) (by simp)
/-- x(), x the name that holds the lambda: the def that calls it was entered at s, in the maker's state I -/
theorem pe_lamact {CXg : CXT} {Eg : XK} {Ng : List Str} {qg : Str} {sg : Scope} {g f : Addr} {cdg : Value} {d : LamD} {k i : Nat} {a : Str} {pn : List (Addr × Obj)} {xe : Value → Shared → Prop} {W : WX} {tb : XK → TE} {p1 p2 : Pos}
    (I : Inv X pins σ H s) (L : LamOk X.N X.env.scope d) (B : LamB d)
    (tk : Takes ((cxOf CXg X.prog X.w X.K X.mg X.base Ng qg sg g cdg X.A X.stack s H Eg).tr pn xe) W) (hr : Room (k + 1) (X.A.deeper (envOfC qg sg s.heap.objs.size g cdg)))
    (hbody : ∀ (E : XK) (A : Around) (outer : List Env) (s : Shared) (H : Hp) (f c' : Addr), Room k (A.deeper (lamEnv X d.scope s.heap.objs.size f c')) → PE (lamCx X A outer s H E d.scope f c') d.body (tb E))
    (hN : Ng[i]? = some a) (hv : Vis sg a) (hd : (a == ("__debug__" : Str)) = false := by decide) (hcd : (a == ("__classdict__" : Str)) = false := by decide) :
    PE ((cxOf CXg X.prog X.w X.K X.mg X.base Ng qg sg g cdg X.A X.stack s H Eg).tr pn xe) (.Call (.Name a p1) [] [] p2)
      (fun σZ HZ Q => σZ[i]? = some (some (.ref f)) ∧ LamAt X.env HZ d f ∧ tb (WE W σZ) σ HZ Q) := by
  refine ⟨fun pinsZ sZ σZ HZ Q IZ h => ?_⟩
  obtain ⟨hs, hla, ht⟩ := h
  refine wpAny_Call_Name_kw (thn ((pe_var (pos := p1) (i := i) hN hv hd hcd).run pinsZ sZ σZ HZ (fun v H1 => v = .ref f ∧ H1 = HZ) IZ ⟨.ref f, hs, rfl, rfl⟩) fun u s1 ⟨v, H1, I1, r1, q1⟩ => ?_)
  obtain ⟨ev, eH⟩ := q1
  subst ev
  rw [eH] at I1
  obtain rfl : u = Value.ref f := r1
  obtain ⟨c', dV, hf, hc, hdf⟩ := hla
  obtain ⟨doc, pm, ctv, of1⟩ := lamO_at I1.hok hf
  refine PySem.W.callWith_F0 ⟨_, _, _, _, of1⟩ ?_
  have un : Un (frs X.stack) [] H HZ s.heap s1.heap := I1.base
  obtain ⟨⟨oc, vs, t, hoc, hdc, hvc⟩, _, _⟩ := I1.hok c' _ hc
  have fin : ∀ (binds : List (Str × Value)), (∀ y ∈ binds, d.scope.names.lookup y.1 = some .local) → BindsTo s1 (PySem.W.kdv_fn "<lambda>" (X.env.qual ++ "<lambda>") d.params (.expr d.body) d.scope (cloFrom X.env.cells d.scope.names []) dV doc pm (.ref c') ctv) ⟨[], []⟩ binds →
      codeAny (model X.prog X.w) (X.A.deeper (envOfC qg sg s.heap.objs.size g cdg)) (.call (.ref f) ⟨[], []⟩) (CR (L2.CX X.prog X.w) (envOfC qg sg s.heap.objs.size g cdg :: X.stack) X.prog X.w HZ s1 Q (WE W σZ)) s1 := fun binds hloc hbt => by
    refine PySem.W.kla_callFunE hr.depth of1 rfl L.co L.gen rfl ⟨c', oc, vs, t, rfl, hoc, hdc, hvc⟩ (hbt _ _ _ _ ?_)
    refine wpAny_newFunctionEnv (fun y hy => (L.own y hy).1) hloc (fun h₁ hns hsb => ⟨I1.nolimit.fresh _ hsb, ?_⟩) L.kind
    show codeAny _ _ (.expr d.body (lamEnv X d.scope s1.heap.objs.size f c')) _ _
    have kp : ∀ b o, s1.heap.get? b = some o → h₁.get? b = some o := fun b o e => hsb.extBut b o (Nat.ne_of_lt (Heap.lt_size e)) (Heap.get?_push_of_some _ e)
    have J : Inv (lamCx X (X.A.deeper (envOfC qg sg s.heap.objs.size g cdg)) (envOfC qg sg s.heap.objs.size g cdg :: X.stack) s1 HZ (WE W σZ) d.scope f c') [] σ HZ { s1 with heap := h₁, toks := s1.toks + binds.length } :=
      lam_begin I L I1.env0 hr.hd un hns kp
    refine PySem.W.kla_codeExpr (wpAny_mono ((hbody (WE W σZ) _ _ s1 HZ f c' (hr.deeper _)).run [] _ _ HZ Q J ht) (fun v s' hq => ?_) fun e s' hq => hq)
    obtain ⟨w', H', J', rv, q⟩ := hq
    exact ⟨w', H', J'.os, J'.bare, J'.base, J'.hok, rv, q⟩
  have rc : codeAny (model X.prog X.w) (X.A.deeper (envOfC qg sg s.heap.objs.size g cdg)) (.call (.ref f) ⟨[], []⟩) (CR (L2.CX X.prog X.w) (envOfC qg sg s.heap.objs.size g cdg :: X.stack) X.prog X.w HZ s1 Q (WE W σZ)) s1 := by
    cases B with
    | none hd hk hb =>
      rcases hdf with ⟨_, z⟩ | ⟨z, _⟩
      · subst z
        exact fin [] (fun y hy => nomatch hy) (.of_eq (hb _ _ _ _ _ _))
      · exact absurd hd z
    | one a' j pz hd hk hl hb =>
      rcases hdf with ⟨z, _⟩ | ⟨_, t0, z, hT⟩
      · rw [hd] at z
        cases z
      · subst z
        obtain ⟨_, its, rv, o, h1, h2, n, h3⟩ := (show ObjOk X.prog X.w HZ s1.heap t0 (.tup [.int 0]) from I1.hok t0 _ hT)
        obtain ⟨u0, rfl, _⟩ := vals1 rv
        obtain ⟨kk, e1, e2⟩ := hb (X.env.qual ++ "<lambda>") (cloFrom X.env.cells d.scope.names []) t0 doc pm (.ref c') ctv
        refine fin [(a', u0)] (fun y hy => ?_) (.of_defaults rfl h1 h3 e1 (e2 u0))
        obtain rfl := List.mem_singleton.mp hy
        exact hl
  have hx := passAt tk σZ
  refine wpAny_call (codeAny_mono rc fun r s' hq => ?_)
  cases r with
  | error e => exact hx pinsZ HZ s1 e s' I1 hq
  | ok fl =>
    cases fl with
    | ret u => exact I1.after hq
    | next => exact False.elim hq
    | brk => exact False.elim hq
    | cont => exact False.elim hq
end
/-! ### a def that is handed the lambda -/
/-- a lambda with its reading: k the room that its body wants -/
structure LamP (X : Cx) (k : Nat) where
  d : LamD
  ok : LamOk X.N X.env.scope d
  b : LamB d
  t : XK → TE
  run : ∀ (A : Around) (outer : List Env) (s : Shared) (H : Hp) (E : XK) (f c' : Addr), Room k (A.deeper (lamEnv X d.scope s.heap.objs.size f c')) → PE (lamCx X A outer s H E d.scope f c') d.body (t E)
/-- x(e), e a lambda: TT what x makes of its reading -/
def tHand (X : Cx) (k : Nat) (TT : (XK → Hp → VK → Prop) → Hp → VK → Prop) (ta : TA) : TE := fun σ H Q => ta σ H fun vs H1 => ∃ (l : LamP X k) (f : Addr), vs = [.ref f] ∧ LamAt X.env H1 l.d f ∧
  TT (fun E H' Q' => LamAt X.env H' l.d f ∧ l.t E σ H' Q') H1 Q
/-- the def x at g, of one parameter a in slot 0, calls it -/
def Gives1 (X : Cx) (Ng : List Str) (x : Str) (sg : Scope) (g : Addr) (cdg : Value) (bg : List Stmt) (a : Str) (k : Nat) (TT : (XK → Hp → VK → Prop) → Hp → VK → Prop) : Prop :=
  ∀ (f : Addr) (s : Shared) (H : Hp) (Q : VK) (tl : XK → Hp → VK → Prop), Room (k + 1) (X.A.deeper (envOfC x sg s.heap.objs.size g cdg)) →
    (∀ (W : WX) (pn : List (Addr × Obj)) (xe : Value → Shared → Prop) (p1 p2 : Pos), Takes ((cxOf CX0 X.prog X.w X.K X.mg X.base Ng x sg g cdg X.A X.stack s H E0).nox.tr pn xe) W →
      PE ((cxOf CX0 X.prog X.w X.K X.mg X.base Ng x sg g cdg X.A X.stack s H E0).nox.tr pn xe) (.Call (.Name a p1) [] [] p2) (fun σZ HZ Q => σZ[0]? = some (some (.ref f)) ∧ tl (WE W σZ) HZ Q)) →
    TT tl H Q → ∃ t, PSs (cxOf CX0 X.prog X.w X.K X.mg X.base Ng x sg g cdg X.A X.stack s H E0).nox bg t ∧ t { nx := fun _ H' => Q .non H', rt := Q } (L2.start Ng [.ref f]) H
theorem pe_hand {X : Cx} {TT : (XK → Hp → VK → Prop) → Hp → VK → Prop} {x a : Str} {g : Addr} {k : Nat} {pg : Arguments} {bg : List Stmt} {sg : Scope} {dV kV doc pm cdv ct oc : Value} {an od : Option Addr} {osl : Array (Option Value)} {Ng : List Str} {e : Expr} {ta : TA}
    {p pos : Pos} (hg : Gl X x) (hm : X.mg x = some (.ref g)) (hk : PySem.W.keepIn X.K (.ref g) = true)
    (lk : X.K.lookup g = some ⟨oc, od, .func (PySem.W.fnOf x x pg bg sg dV kV doc pm an cdv ct), osl⟩) (hcg : PySem.W.codeIn X.K cdv x = true) (hb : L2.Binds X.K (PySem.W.fnOf x x pg bg sg dV kV doc pm an cdv ct) [a] []) (Sg : FnScope Ng [a] sg) (hNg : Ng[0]? = some a) (hva : Vis sg a)
    (hG : Gives1 X Ng x sg g cdv bg a k TT) (hr : Room (k + 2) X.A) (ha : PA X [e] ta)
    (hdb : (x == ("__debug__" : Str)) = false := by decide) (hd : (a == ("__debug__" : Str)) = false := by decide) (hcd : (a == ("__classdict__" : Str)) = false := by decide)
    (hst : starEach [e] X.env = (false, eval e X.env) :: starEach [] X.env := by rfl) (hpl : (backTo pos (starEach [] X.env)).any (·.1) = false := by rfl) :
    PE X (.Call (.Name x p) [e] [] pos) (tHand X k TT ta) := by
  refine ⟨fun pins s σ H Q I h => ?_⟩
  refine wpAny_Call_Name_kw (ld_glob I hg hm ?_ hdb)
  refine PySem.W.callWith_K (h₀ := X.base) I.ok.mod.kin hk (thn (ha.run pos pins s σ H _ I h) fun us s1 hh => ?_) hst hpl
  · obtain ⟨vs, H1, I1, r1, l, f, rfl, hla, hT⟩ := hh
    obtain ⟨u, rfl, ru⟩ := vals1 r1
    cases ru
    refine ⟨I1.kIn, ?_⟩
    have rc : codeAny (model X.prog X.w) X.A (.call (.ref g) ⟨[.ref f], []⟩) (CR CX0 X.stack X.prog X.w H1 s1 Q E0) s1 := by
      refine run_ofS (N := Ng) (ps := [a]) (us := [.ref f]) (vs := [.ref f]) lk hcg Sg hr I1.env0 (hb s1 [.ref f] I1.kIn rfl) (.cons rfl .nil) rfl fun hr' => ?_
      obtain ⟨t', ht', hq'⟩ := hG f s1 H1 Q (fun E H' Q' => LamAt X.env H' l.d f ∧ l.t E σ H' Q') hr' (fun W pn xe p1 p2 tk => pe_lamact (CXg := CX0) (Eg := E0) (i := 0) I1 l.ok l.b tk hr' (fun E A outer s H f c' hr2 => l.run A outer s H E f c' hr2) hNg hva hd hcd) hT
      exact ⟨t', ht'.nox, hq'⟩
    refine wpAny_call (codeAny_mono rc fun r s2 hq => ?_)
    cases r with
    | error e => exact (show False from hq).elim
    | ok fl =>
      cases fl with
      | ret u => exact I1.after hq
      | next => exact False.elim hq
      | brk => exact False.elim hq
      | cont => exact False.elim hq
end RvL

/-! ## RvTop -/
/-! The text by places; each def's names by slot. Printed by gen_top.py. -/
namespace Rv
open PySem L2
def top (i : Nat) : Stmt := PySem.Challenge.pw_rulevoices_k10_whole_refused.main.body.getD i (.Pass ⟨0, 0, 0, 0⟩)
/-- is_voice -/
abbrev s_is_voice : Stmt := top 15
abbrev N_is_voice : List Str := ["value"]
theorem sc_is_voice : FnScope N_is_voice ["value"] (defScope s_is_voice) := ⟨rfl, rfl, rfl, by decide +kernel, rfl, by decide +kernel, by decide +kernel⟩
/-- is_in -/
abbrev s_is_in : Stmt := top 16
abbrev N_is_in : List Str := ["value", "least", "most"]
theorem sc_is_in : FnScope N_is_in ["value", "least", "most"] (defScope s_is_in) := ⟨rfl, rfl, rfl, by decide +kernel, rfl, by decide +kernel, by decide +kernel⟩
/-- need_number -/
abbrev s_need_number : Stmt := top 17
abbrev N_need_number : List Str := ["value", "least", "most"]
theorem sc_need_number : FnScope N_need_number ["value", "least", "most"] (defScope s_need_number) := ⟨rfl, rfl, rfl, by decide +kernel, rfl, by decide +kernel, by decide +kernel⟩
/-- need_row -/
abbrev s_need_row : Stmt := top 18
abbrev N_need_row : List Str := ["value", "index"]
theorem sc_need_row : FnScope N_need_row ["value"] (defScope s_need_row) := ⟨rfl, rfl, rfl, by decide +kernel, rfl, by decide +kernel, by decide +kernel⟩
/-- turned -/
abbrev s_turned : Stmt := top 19
abbrev N_turned : List Str := ["voice"]
theorem sc_turned : FnScope N_turned ["voice"] (defScope s_turned) := ⟨rfl, rfl, rfl, by decide +kernel, rfl, by decide +kernel, by decide +kernel⟩
/-- turned_at -/
abbrev s_turned_at : Stmt := top 20
abbrev N_turned_at : List Str := ["row", "place"]
theorem sc_turned_at : FnScope N_turned_at ["row", "place"] (defScope s_turned_at) := ⟨rfl, rfl, rfl, by decide +kernel, rfl, by decide +kernel, by decide +kernel⟩
/-- rows_of -/
abbrev s_rows_of : Stmt := top 21
abbrev N_rows_of : List Str := ["length", "found", "place", "row", "voice"]
theorem sc_rows_of : FnScope N_rows_of ["length"] (defScope s_rows_of) := ⟨rfl, rfl, rfl, by decide +kernel, rfl, by decide +kernel, by decide +kernel⟩
/-- short_rows -/
abbrev s_short_rows : Stmt := top 22
abbrev N_short_rows : List Str := ["most", "found", "length"]
theorem sc_short_rows : FnScope N_short_rows ["most"] (defScope s_short_rows) := ⟨rfl, rfl, rfl, by decide +kernel, rfl, by decide +kernel, by decide +kernel⟩
/-- need_way -/
abbrev s_need_way : Stmt := top 25
abbrev N_need_way : List Str := ["way"]
theorem sc_need_way : FnScope N_need_way ["way"] (defScope s_need_way) := ⟨rfl, rfl, rfl, by decide +kernel, rfl, by decide +kernel, by decide +kernel⟩
/-- joined -/
abbrev s_joined : Stmt := top 26
abbrev N_joined : List Str := ["row", "place", "voice"]
theorem sc_joined : FnScope N_joined ["row"] (defScope s_joined) := ⟨rfl, rfl, rfl, by decide +kernel, rfl, by decide +kernel, by decide +kernel⟩
/-- said -/
abbrev s_said : Stmt := top 27
abbrev N_said : List Str := ["good"]
theorem sc_said : FnScope N_said ["good"] (defScope s_said) := ⟨rfl, rfl, rfl, by decide +kernel, rfl, by decide +kernel, by decide +kernel⟩
/-- most_of -/
abbrev s_most_of : Stmt := top 28
abbrev N_most_of : List Str := ["way", "row", "allows", "denies"]
theorem sc_most_of : FnScope N_most_of ["way", "row"] (defScope s_most_of) := ⟨rfl, rfl, rfl, by decide +kernel, rfl, by decide +kernel, by decide +kernel⟩
/-- answer_of -/
abbrev s_answer_of : Stmt := top 29
abbrev N_answer_of : List Str := ["way", "row"]
theorem sc_answer_of : FnScope N_answer_of ["way", "row"] (defScope s_answer_of) := ⟨rfl, rfl, rfl, by decide +kernel, rfl, by decide +kernel, by decide +kernel⟩
/-- need_both -/
abbrev s_need_both : Stmt := top 30
abbrev N_need_both : List Str := ["way", "row"]
theorem sc_need_both : FnScope N_need_both ["way", "row"] (defScope s_need_both) := ⟨rfl, rfl, rfl, by decide +kernel, rfl, by decide +kernel, by decide +kernel⟩
/-- answer -/
abbrev s_answer : Stmt := top 31
abbrev N_answer : List Str := ["way", "row"]
theorem sc_answer : FnScope N_answer ["way", "row"] (defScope s_answer) := ⟨rfl, rfl, rfl, by decide +kernel, rfl, by decide +kernel, by decide +kernel⟩
/-- matters -/
abbrev s_matters : Stmt := top 32
abbrev N_matters : List Str := ["way", "row", "here", "place"]
theorem sc_matters : FnScope N_matters ["way", "row"] (defScope s_matters) := ⟨rfl, rfl, rfl, by decide +kernel, rfl, by decide +kernel, by decide +kernel⟩
/-- table_of -/
abbrev s_table_of : Stmt := top 33
abbrev N_table_of : List Str := ["way", "row"]
theorem sc_table_of : FnScope N_table_of ["way"] (defScope s_table_of) := ⟨rfl, rfl, rfl, by decide +kernel, rfl, by decide +kernel, by decide +kernel⟩
/-- choose -/
abbrev s_choose : Stmt := top 36
abbrev N_choose : List Str := ["many", "some", "found", "at"]
theorem sc_choose : FnScope N_choose ["many", "some"] (defScope s_choose) := ⟨rfl, rfl, rfl, by decide +kernel, rfl, by decide +kernel, by decide +kernel⟩
/-- most_allowed -/
abbrev s_most_allowed : Stmt := top 37
abbrev N_most_allowed : List Str := ["way", "length", "half", "ties"]
theorem sc_most_allowed : FnScope N_most_allowed ["way", "length"] (defScope s_most_allowed) := ⟨rfl, rfl, rfl, by decide +kernel, rfl, by decide +kernel, by decide +kernel⟩
/-- allowed -/
abbrev s_allowed : Stmt := top 38
abbrev N_allowed : List Str := ["way", "length", "whole"]
theorem sc_allowed : FnScope N_allowed ["way", "length"] (defScope s_allowed) := ⟨rfl, rfl, rfl, by decide +kernel, rfl, by decide +kernel, by decide +kernel⟩
/-- count_allowed -/
abbrev s_count_allowed : Stmt := top 39
abbrev N_count_allowed : List Str := ["way", "length"]
theorem sc_count_allowed : FnScope N_count_allowed ["way", "length"] (defScope s_count_allowed) := ⟨rfl, rfl, rfl, by decide +kernel, rfl, by decide +kernel, by decide +kernel⟩
/-- most_power -/
abbrev s_most_power : Stmt := top 40
abbrev N_most_power : List Str := ["way", "length", "half", "rest", "strong"]
theorem sc_most_power : FnScope N_most_power ["way", "length"] (defScope s_most_power) := ⟨rfl, rfl, rfl, by decide +kernel, rfl, by decide +kernel, by decide +kernel⟩
/-- is_island -/
abbrev s_is_island : Stmt := top 41
abbrev N_is_island : List Str := ["left", "right", "length"]
theorem sc_is_island : FnScope N_is_island ["left", "right", "length"] (defScope s_is_island) := ⟨rfl, rfl, rfl, by decide +kernel, rfl, by decide +kernel, by decide +kernel⟩
/-- stays -/
abbrev s_stays : Stmt := top 42
abbrev N_stays : List Str := ["left", "right", "place", "length"]
theorem sc_stays : FnScope N_stays ["left", "right", "place", "length"] (defScope s_stays) := ⟨rfl, rfl, rfl, by decide +kernel, rfl, by decide +kernel, by decide +kernel⟩
/-- island_power -/
abbrev s_island_power : Stmt := top 43
abbrev N_island_power : List Str := ["length", "found", "left", "right", "at", "many"]
theorem sc_island_power : FnScope N_island_power ["length"] (defScope s_island_power) := ⟨rfl, rfl, rfl, by decide +kernel, rfl, by decide +kernel, by decide +kernel⟩
/-- power_of -/
abbrev s_power_of : Stmt := top 44
abbrev N_power_of : List Str := ["way", "length", "whole", "rest"]
theorem sc_power_of : FnScope N_power_of ["way", "length"] (defScope s_power_of) := ⟨rfl, rfl, rfl, by decide +kernel, rfl, by decide +kernel, by decide +kernel⟩
/-- power -/
abbrev s_power : Stmt := top 45
abbrev N_power : List Str := ["way", "length"]
theorem sc_power : FnScope N_power ["way", "length"] (defScope s_power) := ⟨rfl, rfl, rfl, by decide +kernel, rfl, by decide +kernel, by decide +kernel⟩
/-- need_promise -/
abbrev s_need_promise : Stmt := top 55
abbrev N_need_promise : List Str := ["promise"]
theorem sc_need_promise : FnScope N_need_promise ["promise"] (defScope s_need_promise) := ⟨rfl, rfl, rfl, by decide +kernel, rfl, by decide +kernel, by decide +kernel⟩
/-- need_promises -/
abbrev s_need_promises : Stmt := top 56
abbrev N_need_promises : List Str := ["wanted", "one", "other"]
theorem sc_need_promises : FnScope N_need_promises ["wanted"] (defScope s_need_promises) := ⟨rfl, rfl, rfl, by decide +kernel, rfl, by decide +kernel, by decide +kernel⟩
/-- holds -/
abbrev s_holds : Stmt := top 57
abbrev N_holds : List Str := ["way", "promise"]
theorem sc_holds : FnScope N_holds ["way", "promise"] (defScope s_holds) := ⟨rfl, rfl, rfl, by decide +kernel, rfl, by decide +kernel, by decide +kernel⟩
/-- need_table -/
abbrev s_need_table : Stmt := top 58
abbrev N_need_table : List Str := ["table", "rows", "index"]
theorem sc_need_table : FnScope N_need_table ["table"] (defScope s_need_table) := ⟨rfl, rfl, rfl, by decide +kernel, rfl, by decide +kernel, by decide +kernel⟩
/-- is_mixed -/
abbrev s_is_mixed : Stmt := top 59
abbrev N_is_mixed : List Str := ["row"]
theorem sc_is_mixed : FnScope N_is_mixed ["row"] (defScope s_is_mixed) := ⟨rfl, rfl, rfl, by decide +kernel, rfl, by decide +kernel, by decide +kernel⟩
/-- with_more -/
abbrev s_with_more : Stmt := top 60
abbrev N_with_more : List Str := ["row", "place", "voice"]
theorem sc_with_more : FnScope N_with_more ["row", "place", "voice"] (defScope s_with_more) := ⟨rfl, rfl, rfl, by decide +kernel, rfl, by decide +kernel, by decide +kernel⟩
/-- exchanged -/
abbrev s_exchanged : Stmt := top 61
abbrev N_exchanged : List Str := ["row", "place"]
theorem sc_exchanged : FnScope N_exchanged ["row", "place"] (defScope s_exchanged) := ⟨rfl, rfl, rfl, by decide +kernel, rfl, by decide +kernel, by decide +kernel⟩
/-- is_heard -/
abbrev s_is_heard : Stmt := top 62
abbrev N_is_heard : List Str := ["told", "length", "place", "row"]
theorem sc_is_heard : FnScope N_is_heard ["told", "length", "place"] (defScope s_is_heard) := ⟨rfl, rfl, rfl, by decide +kernel, rfl, by decide +kernel, by decide +kernel⟩
/-- fits -/
abbrev s_fits : Stmt := top 63
abbrev N_fits : List Str := ["told", "promise", "row", "here", "places", "longer", "voice", "at", "one"]
theorem sc_fits : FnScope N_fits ["told", "promise", "row"] (defScope s_fits) := ⟨rfl, rfl, rfl, by decide +kernel, rfl, by decide +kernel, by decide +kernel⟩
/-- is_kept -/
abbrev s_is_kept : Stmt := top 64
abbrev N_is_kept : List Str := ["told", "promise", "most", "length", "rows", "answers", "place", "row"]
theorem sc_is_kept : FnScope N_is_kept ["told", "promise", "most"] (defScope s_is_kept) := ⟨rfl, rfl, rfl, by decide +kernel, rfl, by decide +kernel, by decide +kernel⟩
/-- fit_all -/
abbrev s_fit_all : Stmt := top 65
abbrev N_fit_all : List Str := ["told", "promise", "rows", "row"]
theorem sc_fit_all : FnScope N_fit_all ["told", "promise", "rows"] (defScope s_fit_all) := ⟨rfl, rfl, rfl, by decide +kernel, rfl, by decide +kernel, by decide +kernel⟩
/-- is_kept_at -/
abbrev s_is_kept_at : Stmt := top 66
abbrev N_is_kept_at : List Str := ["told", "promise", "length", "shorter", "place"]
theorem sc_is_kept_at : FnScope N_is_kept_at ["told", "promise", "length"] (defScope s_is_kept_at) := ⟨rfl, rfl, rfl, by decide +kernel, rfl, by decide +kernel, by decide +kernel⟩
/-- keeps -/
abbrev s_keeps : Stmt := top 67
abbrev N_keeps : List Str := ["table", "promise"]
theorem sc_keeps : FnScope N_keeps ["table", "promise"] (defScope s_keeps) := ⟨rfl, rfl, rfl, by decide +kernel, rfl, by decide +kernel, by decide +kernel⟩
/-- signs_of -/
abbrev s_signs_of : Stmt := top 69
abbrev N_signs_of : List Str := ["voices", "voice"]
theorem sc_signs_of : FnScope N_signs_of ["voices"] (defScope s_signs_of) := ⟨rfl, rfl, rfl, by decide +kernel, rfl, by decide +kernel, by decide +kernel⟩
/-- write_row -/
abbrev s_write_row : Stmt := top 70
abbrev N_write_row : List Str := ["row"]
theorem sc_write_row : FnScope N_write_row ["row"] (defScope s_write_row) := ⟨rfl, rfl, rfl, by decide +kernel, rfl, by decide +kernel, by decide +kernel⟩
/-- write_table -/
abbrev s_write_table : Stmt := top 71
abbrev N_write_table : List Str := ["table"]
theorem sc_write_table : FnScope N_write_table ["table"] (defScope s_write_table) := ⟨rfl, rfl, rfl, by decide +kernel, rfl, by decide +kernel, by decide +kernel⟩
abbrev s_Desk_init : Stmt := inClass (top 73) 0
abbrev N_Desk_init : List Str := ["self", "way"]
theorem sc_Desk_init : FnScope N_Desk_init ["self", "way"] (defScope s_Desk_init) := ⟨rfl, rfl, rfl, by decide +kernel, rfl, by decide +kernel, by decide +kernel⟩
/-- keepers_of -/
abbrev s_keepers_of : Stmt := top 76
abbrev N_keepers_of : List Str := ["wanted", "way", "one"]
theorem sc_keepers_of : FnScope N_keepers_of ["wanted"] (defScope s_keepers_of) := ⟨rfl, rfl, rfl, by decide +kernel, rfl, by decide +kernel, by decide +kernel⟩
/-- can_hold -/
abbrev s_can_hold : Stmt := top 77
abbrev N_can_hold : List Str := ["wanted"]
theorem sc_can_hold : FnScope N_can_hold ["wanted"] (defScope s_can_hold) := ⟨rfl, rfl, rfl, by decide +kernel, rfl, by decide +kernel, by decide +kernel⟩
/-- keepers -/
abbrev s_keepers : Stmt := top 78
abbrev N_keepers : List Str := ["wanted"]
theorem sc_keepers : FnScope N_keepers ["wanted"] (defScope s_keepers) := ⟨rfl, rfl, rfl, by decide +kernel, rfl, by decide +kernel, by decide +kernel⟩
/-- clashes -/
abbrev s_clashes : Stmt := top 79
abbrev N_clashes : List Str := ["wanted", "some", "one"]
theorem sc_clashes : FnScope N_clashes ["wanted"] (defScope s_clashes) := ⟨rfl, rfl, rfl, by decide +kernel, rfl, by decide +kernel, by decide +kernel⟩
/-- can_add -/
abbrev s_can_add : Stmt := top 80
abbrev N_can_add : List Str := ["wanted", "rest", "one"]
theorem sc_can_add : FnScope N_can_add ["wanted"] (defScope s_can_add) := ⟨rfl, rfl, rfl, by decide +kernel, rfl, by decide +kernel, by decide +kernel⟩
/-- all_answers -/
abbrev s_all_answers : Stmt := top 81
abbrev N_all_answers : List Str := ["many"]
theorem sc_all_answers : FnScope N_all_answers ["many"] (defScope s_all_answers) := ⟨rfl, rfl, rfl, by decide +kernel, rfl, by decide +kernel, by decide +kernel⟩
/-- count_tables -/
abbrev s_count_tables : Stmt := top 82
abbrev N_count_tables : List Str := ["wanted", "layer", "length", "rows", "later", "told", "answers", "found"]
theorem sc_count_tables : FnScope N_count_tables ["wanted"] (defScope s_count_tables) := ⟨rfl, rfl, rfl, by decide +kernel, rfl, by decide +kernel, by decide +kernel⟩
/-- keep_all -/
abbrev s_keep_all : Stmt := top 83
abbrev N_keep_all : List Str := ["told", "wanted", "length", "promise"]
theorem sc_keep_all : FnScope N_keep_all ["told", "wanted", "length"] (defScope s_keep_all) := ⟨rfl, rfl, rfl, by decide +kernel, rfl, by decide +kernel, by decide +kernel⟩
/-- told_by -/
abbrev s_told_by : Stmt := top 86
abbrev N_told_by : List Str := ["small"]
theorem sc_told_by : FnScope N_told_by ["small"] (defScope s_told_by) := ⟨rfl, rfl, rfl, by decide +kernel, rfl, by decide +kernel, by decide +kernel⟩
/-- goes -/
abbrev s_goes : Stmt := top 87
abbrev N_goes : List Str := ["told", "one", "other", "last", "left"]
theorem sc_goes : FnScope N_goes ["told"] (defScope s_goes) := ⟨rfl, rfl, rfl, by decide +kernel, rfl, by decide +kernel, by decide +kernel⟩
/-- is_parts -/
abbrev s_is_parts : Stmt := top 88
abbrev N_is_parts : List Str := ["small", "one"]
theorem sc_is_parts : FnScope N_is_parts ["small"] (defScope s_is_parts) := ⟨rfl, rfl, rfl, by decide +kernel, rfl, by decide +kernel, by decide +kernel⟩
/-- parts_answer -/
abbrev s_parts_answer : Stmt := top 89
abbrev N_parts_answer : List Str := ["small", "row", "told", "found", "place"]
theorem sc_parts_answer : FnScope N_parts_answer ["small", "row"] (defScope s_parts_answer) := ⟨rfl, rfl, rfl, by decide +kernel, rfl, by decide +kernel, by decide +kernel⟩
/-- _law_taken -/
abbrev s_l_taken : Stmt := top 91
abbrev N_l_taken : List Str := ["_law_row_here", "_law_many", "_law_found", "_law_cell"]
theorem sc_l_taken : FnScope N_l_taken ["_law_row_here", "_law_many"] (defScope s_l_taken) := ⟨rfl, rfl, rfl, by decide +kernel, rfl, by decide +kernel, by decide +kernel⟩
/-- _law_pick -/
abbrev s_l_pick : Stmt := top 92
abbrev N_l_pick : List Str := ["_law_row_here", "_law_kinds"]
theorem sc_l_pick : FnScope N_l_pick ["_law_row_here", "_law_kinds"] (defScope s_l_pick) := ⟨rfl, rfl, rfl, by decide +kernel, rfl, by decide +kernel, by decide +kernel⟩
/-- _law_ways -/
abbrev s_l_ways : Stmt := top 93
abbrev N_l_ways : List Str := []
theorem sc_l_ways : FnScope N_l_ways [] (defScope s_l_ways) := ⟨rfl, rfl, rfl, by decide +kernel, rfl, by decide +kernel, by decide +kernel⟩
/-- _law_turned -/
abbrev s_l_turned : Stmt := top 94
abbrev N_l_turned : List Str := ["_law_text", "_law_sign"]
theorem sc_l_turned : FnScope N_l_turned ["_law_text"] (defScope s_l_turned) := ⟨rfl, rfl, rfl, by decide +kernel, rfl, by decide +kernel, by decide +kernel⟩
/-- _law_answer -/
abbrev s_l_answer : Stmt := top 95
abbrev N_l_answer : List Str := ["_law_way", "_law_text", "_law_more", "_law_ties", "_law_good", "_law_changes", "_law_at"]
theorem sc_l_answer : FnScope N_l_answer ["_law_way", "_law_text"] (defScope s_l_answer) := ⟨rfl, rfl, rfl, by decide +kernel, rfl, by decide +kernel, by decide +kernel⟩
/-- _law_rows -/
abbrev s_l_rows : Stmt := top 96
abbrev N_l_rows : List Str := ["_law_length", "_law_found", "_law_turn", "_law_longer", "_law_text"]
theorem sc_l_rows : FnScope N_l_rows ["_law_length"] (defScope s_l_rows) := ⟨rfl, rfl, rfl, by decide +kernel, rfl, by decide +kernel, by decide +kernel⟩
/-- _law_short -/
abbrev s_l_short : Stmt := top 97
abbrev N_l_short : List Str := ["_law_most", "_law_found", "_law_length"]
theorem sc_l_short : FnScope N_l_short ["_law_most"] (defScope s_l_short) := ⟨rfl, rfl, rfl, by decide +kernel, rfl, by decide +kernel, by decide +kernel⟩
/-- _law_row -/
abbrev s_l_row : Stmt := top 98
abbrev N_l_row : List Str := ["_law_row_here", "_law_most", "_law_turn"]
theorem sc_l_row : FnScope N_l_row ["_law_row_here", "_law_most"] (defScope s_l_row) := ⟨rfl, rfl, rfl, by decide +kernel, rfl, by decide +kernel, by decide +kernel⟩
/-- _law_word -/
abbrev s_l_word : Stmt := top 99
abbrev N_l_word : List Str := ["_law_sign"]
theorem sc_l_word : FnScope N_l_word ["_law_sign"] (defScope s_l_word) := ⟨rfl, rfl, rfl, by decide +kernel, rfl, by decide +kernel, by decide +kernel⟩
/-- _law_voices -/
abbrev s_l_voices : Stmt := top 100
abbrev N_l_voices : List Str := ["_law_text", "_law_sign"]
theorem sc_l_voices : FnScope N_l_voices ["_law_text"] (defScope s_l_voices) := ⟨rfl, rfl, rfl, by decide +kernel, rfl, by decide +kernel, by decide +kernel⟩
/-- _law_table -/
abbrev s_l_table : Stmt := top 101
abbrev N_l_table : List Str := ["_law_row_here", "_law_told", "_law_way", "_law_kind", "_law_text", "_law_spot"]
theorem sc_l_table : FnScope N_l_table ["_law_row_here"] (defScope s_l_table) := ⟨rfl, rfl, rfl, by decide +kernel, rfl, by decide +kernel, by decide +kernel⟩
/-- _law_as_table -/
abbrev s_l_as_table : Stmt := top 102
abbrev N_l_as_table : List Str := ["_law_told", "_law_text"]
theorem sc_l_as_table : FnScope N_l_as_table ["_law_told"] (defScope s_l_as_table) := ⟨rfl, rfl, rfl, by decide +kernel, rfl, by decide +kernel, by decide +kernel⟩
/-- _law_wrong -/
abbrev s_l_wrong : Stmt := top 103
abbrev N_l_wrong : List Str := ["_law_work", "_law_e", "_law_known"]
theorem sc_l_wrong : FnScope N_l_wrong ["_law_work"] (defScope s_l_wrong) := ⟨rfl, rfl, rfl, by decide +kernel, rfl, by decide +kernel, by decide +kernel⟩
/-- law -/
abbrev s_law : Stmt := top 104
abbrev N_law : List Str := ["_law_script", "_law_row_here", "_law_way", "_law_text", "_law_told", "_law_bad", "_law_works", "_law_at", "_law_voices_here", "_law_wrong_here", "_law_ill", "_law_due", "_law_small", "_law_odd", "_law_some", "_law_far", "_law_table_here", "_law_spot", "_law_torn"]
theorem sc_law : FnScope N_law ["_law_script"] (defScope s_law) := ⟨rfl, rfl, rfl, by decide +kernel, rfl, by decide +kernel, by decide +kernel⟩
end Rv

/-! ## RvProg1 -/
/-! The program's checks, as contracts. -/
namespace Rv
open PySem PySem.Spec PyProof.Rows L2
/-! ### a def of the module with its contract -/
def Df (P : Program) (w : World) (K : PySem.W.Frag) (mg : Str → Option Value) (base : Heap) (CX : CXT) (k : Nat) (x : Str) (ps : List Str) (sp : Sp) : Prop :=
  ∃ (f : Addr) (fd : FuncData), FnOk P w K mg base CX k f fd ps sp ∧ mg x = some (.ref f) ∧ PySem.W.keepIn K (.ref f) = true ∧ Binds K fd ps []
/-- what the top has left of a def -/
structure DefAt (K : PySem.W.Frag) (mg : Str → Option Value) (x : Str) (st : Stmt) (ps : List Str) : Prop where
  ex : ∃ (f : Addr) (fd : FuncData), Fun K x x st f fd ∧ mg x = some (.ref f) ∧ Binds K fd ps []
section
variable {X : Cx} {CX : CXT} {k : Nat} {x : Str} {ps : List Str} {sp : Sp} {e : Expr} {es : List Expr} {t : TA} {p pos : Pos} {E : XK} {W : WX}
/-- x(..), x lets no exception out -/
theorem Df.pe (D : Df X.prog X.w X.K X.mg X.base CX0 k x ps sp) (hr : Room k X.A) (ha : PA X (e :: es) t) (hg : Gl X x := by rfl) (hdb : (x == ("__debug__" : Str)) = false := by decide)
    (he : starEach (e :: es) X.env = (false, eval e X.env) :: starEach es X.env := by rfl) (hpl : (backTo pos (starEach es X.env)).any (·.1) = false := by rfl) : PE X (.Call (.Name x p) (e :: es) [] pos) (tCall sp [] E0 t) := by
  obtain ⟨f, fd, F, hm, hk, hb⟩ := D
  exact pe_call F hr hg hm hk hb .nil pass0 ha hdb he hpl
theorem Df.pe0 (D : Df X.prog X.w X.K X.mg X.base CX0 k x ps sp) (hr : Room k X.A) (hg : Gl X x := by rfl) (hdb : (x == ("__debug__" : Str)) = false := by decide) : PE X (.Call (.Name x p) [] [] pos) (tCall sp [] E0 tNil) := by
  obtain ⟨f, fd, F, hm, hk, hb⟩ := D
  exact pe_call0 F hr hg hm hk hb .nil pass0 hdb
/-- x(..), what it lets out goes on as W says -/
theorem Df.peS (D : Df X.prog X.w X.K X.mg X.base (L2.CX X.prog X.w) k x ps sp) (hr : Room k X.A) (tk : Takes X W) (ha : PA X (e :: es) t) (hg : Gl X x := by rfl) (hdb : (x == ("__debug__" : Str)) = false := by decide)
    (he : starEach (e :: es) X.env = (false, eval e X.env) :: starEach es X.env := by rfl) (hpl : (backTo pos (starEach es X.env)).any (·.1) = false := by rfl) : PE X (.Call (.Name x p) (e :: es) [] pos) (tCallS sp (WE W) t) := by
  obtain ⟨f, fd, F, hm, hk, hb⟩ := D
  exact pe_callS F hr hg hm hk hb (fun σ => passAt tk σ) ha hdb he hpl
end
/-! ### kinds of values -/
inductive Kd (H : Hp) : V → String → Prop where
  | non : Kd H .non "NoneType"
  | bl (b : Bool) : Kd H (.bl b) "bool"
  | int (i : Int) : Kd H (.int i) "int"
  | str (x : Str) : Kd H (.str x) "str"
  | lst {a : Addr} {xs : List V} (e : H a = some (.lst xs)) : Kd H (.ref a) "list"
  | tup {a : Addr} {xs : List V} (e : H a = some (.tup xs)) : Kd H (.ref a) "tuple"
theorem Kd.tyx {K : PySem.W.Frag} {H : Hp} {v : V} {t : String} (k : Kd H v t) : TyX K H v (.type t) := by
  cases k with
  | non => exact .base .non
  | bl b => exact .base (.bl b)
  | int i => exact .base (.int i)
  | str x => exact .base (.str x)
  | lst e => exact .base (.lst e)
  | tup e => exact .base (.tup e)
theorem Kd.same {H H' : Hp} {v : V} {t : String} (s : Same H H') (k : Kd H v t) : Kd H' v t := by
  cases k with
  | non => exact .non
  | bl b => exact .bl b
  | int i => exact .int i
  | str x => exact .str x
  | lst e => exact .lst (s _ _ e)
  | tup e => exact .tup (s _ _ e)
def isStr : V → Bool
  | .str _ => true
  | _ => false
def isInt : V → Bool
  | .int _ => true
  | .bl _ => true
  | _ => false
def isBl : V → Bool
  | .bl _ => true
  | _ => false
theorem Kd.kStr {H : Hp} {v : V} {t : String} (k : Kd H v t) : kitB t "str" = some (isStr v) := by
  have h0 : kitB "NoneType" "str" = some false := by decide +kernel
  have h1 : kitB "bool" "str" = some false := by decide +kernel
  have h2 : kitB "int" "str" = some false := by decide +kernel
  have h3 : kitB "str" "str" = some true := by decide +kernel
  have h4 : kitB "list" "str" = some false := by decide +kernel
  have h5 : kitB "tuple" "str" = some false := by decide +kernel
  cases k <;> first | exact h0 | exact h1 | exact h2 | exact h3 | exact h4 | exact h5
theorem Kd.kInt {H : Hp} {v : V} {t : String} (k : Kd H v t) : kitB t "int" = some (isInt v) := by
  have h0 : kitB "NoneType" "int" = some false := by decide +kernel
  have h1 : kitB "bool" "int" = some true := by decide +kernel
  have h2 : kitB "int" "int" = some true := by decide +kernel
  have h3 : kitB "str" "int" = some false := by decide +kernel
  have h4 : kitB "list" "int" = some false := by decide +kernel
  have h5 : kitB "tuple" "int" = some false := by decide +kernel
  cases k <;> first | exact h0 | exact h1 | exact h2 | exact h3 | exact h4 | exact h5
theorem Kd.kBl {H : Hp} {v : V} {t : String} (k : Kd H v t) : kitB t "bool" = some (isBl v) := by
  have h0 : kitB "NoneType" "bool" = some false := by decide +kernel
  have h1 : kitB "bool" "bool" = some true := by decide +kernel
  have h2 : kitB "int" "bool" = some false := by decide +kernel
  have h3 : kitB "str" "bool" = some false := by decide +kernel
  have h4 : kitB "list" "bool" = some false := by decide +kernel
  have h5 : kitB "tuple" "bool" = some false := by decide +kernel
  cases k <;> first | exact h0 | exact h1 | exact h2 | exact h3 | exact h4 | exact h5
theorem Kd.kTup {H : Hp} {v : V} {t : String} (k : Kd H v t) : kitB t "tuple" = some (t == "tuple") := by
  have h0 : kitB "NoneType" "tuple" = some false := by decide +kernel
  have h1 : kitB "bool" "tuple" = some false := by decide +kernel
  have h2 : kitB "int" "tuple" = some false := by decide +kernel
  have h3 : kitB "str" "tuple" = some false := by decide +kernel
  have h4 : kitB "list" "tuple" = some false := by decide +kernel
  have h5 : kitB "tuple" "tuple" = some true := by decide +kernel
  cases k <;> first | exact h0 | exact h1 | exact h2 | exact h3 | exact h4 | exact h5
/-- a text of the list -/
def strIn (v : V) (xs : List V) : Bool := isStr v && inV v xs
/-- an int (no bool) within -/
def intIn (v : V) (lo hi : Int) : Bool := match v with
  | .int i => decide (lo ≤ i) && decide (i ≤ hi)
  | _ => false
theorem flat_of_str {v : V} (h : isStr v = true) : flatV v = true := by
  cases v <;> first | rfl | cases h
theorem int_of {v : V} (h : isInt v = true) (h2 : isBl v = false) : ∃ i, v = .int i := by
  cases v <;> first | exact ⟨_, rfl⟩ | (cases h; done) | (cases h2; done)
def rIsk (T : String) : List V → Hp → VK → Prop := fun xs H Q => ∃ (x : V) (t : String) (b : Bool), xs = [x, .ty T] ∧ Kd H x t ∧ kitB t T = some b ∧ Q (.bl b) H
theorem call_isk {X : Cx} {T : String} : CallR X (.builtin "isinstance") (rIsk T) := by
  intro pins s σ H xs us Q I r h
  obtain ⟨x, t, b, rfl, kd, kb, q⟩ := h
  exact call_isi pins s σ H _ us Q I r ⟨x, .ty T, _, _, b, rfl, .ty T, kd.tyx, kit_ty kb, q⟩
abbrev tIsi (T : String) (ta : TE) : TE := tCB (rIsk T) (tCons ta (tCons (tC (.ty T)) tNil))
section
variable {X : Cx} {a : Expr} {ta : TE} {T : String} {p q pos : Pos}
theorem pe_isi (hI : X.mg "isinstance" = none) {n : Str} (hT : X.mg n = none) (hb : bootBuiltins n = some (.type T)) (ha : PE X a ta) (hgI : Gl X "isinstance" := by rfl) (hgT : Gl X n := by rfl) (hn : n ≠ "__name__" := by decide) (hd : (n == ("__debug__" : Str)) = false := by decide)
    (h1 : starEach [a, .Name n q] X.env = (false, eval a X.env) :: starEach [.Name n q] X.env := by rfl) (h2 : starEach [.Name n q] X.env = (false, eval (.Name n q) X.env) :: starEach [] X.env := by rfl) (h3 : (backTo pos (starEach [.Name n q] X.env)).any (·.1) = false := by rfl) :
    PE X (.Call (.Name "isinstance" p) [a, .Name n q] [] pos) (tIsi T ta) :=
  pe_callB call_isk hgI hI boot_isinstance (pa_cons ha (pa_cons (pe_bltn (v := .ty T) hgT hT hb rfl hn hd) pa_nil h2) h1) (by decide) (by decide) h1 h3
end
/-! ### what the top has left -/
abbrev veB : List Value := [.type "ValueError", .type "Exception", .type "BaseException", .type "object"]
structure Own0 (K : PySem.W.Frag) (mg : Str → Option Value) (x : Str) (C : Addr) : Prop where
  q : PySem.W.excIn K C veB "ValueError.__new__" = true
  g : mg x = some (.ref C)
  k : PySem.W.keepIn K (.ref C) = true
  ex : PySem.W.subIn K (.ref C) (.type "BaseException") = some true
  ty : PySem.W.typeIn K (.ref C) = some (.type "type")
structure KT (K : PySem.W.Frag) (mg : Str → Option Value) (x : Str) (a : Addr) (xs : List V) : Prop where
  g : mg x = some (.ref a)
  s : ∀ H, SqT K H a xs
/-- the classes' addresses -/
structure Cs where
  way : Addr
  row : Addr
  pro : Addr
  pros : Addr
  num : Addr
  tab : Addr
abbrev VOI : List V := [.str "allow", .str "deny"]
abbrev WAY : List V := [.str "allow over", .str "always allow", .str "always deny", .str "both ends", .str "deny over", .str "first", .str "island", .str "last", .str "most or allow", .str "most or deny", .str "most or first", .str "most or last", .str "odd"]
abbrev PRO : List V := [.str "agreed", .str "even", .str "growing", .str "heard", .str "kept", .str "mixed", .str "most", .str "order", .str "parts", .str "repeat"]
structure Md (P : Program) (K : PySem.W.Frag) (mg : Str → Option Value) (c : Cs) : Prop where
  isinst : mg "isinstance" = none
  tstr : mg "str" = none
  tint : mg "int" = none
  tbool : mg "bool" = none
  ttuple : mg "tuple" = none
  tlist : mg "list" = none
  tdict : mg "dict" = none
  len : mg "len" = none
  range : mg "range" = none
  all : mg "all" = none
  zip : mg "zip" = none
  voices : ∃ a, KT K mg "VOICES" a VOI
  ways : ∃ a, KT K mg "WAYS" a WAY
  pros : ∃ a, KT K mg "PROMISES" a PRO
  mostRow : ∃ t, mg "MOST_ROW" = some (.int 12 t)
  mostLen : ∃ t, mg "MOST_LENGTH" = some (.int 60 t)
  mostShort : ∃ t, mg "MOST_SHORT" = some (.int 3 t)
  mostSmall : ∃ t, mg "MOST_SMALL" = some (.int 6 t)
  cWay : Own0 K mg "BadWay" c.way
  cPro : Own0 K mg "BadPromise" c.pro
  cPros : Own0 K mg "BadPromises" c.pros
  cNum : Own0 K mg "BadNumber" c.num
  cRow : ∃ f, PySem.RvX.IxTxt P K mg "BadRow" c.row f
  cTab : ∃ f, PySem.RvX.IxTxt P K mg "BadTable" c.tab f
theorem pmk0 {X : Cx} {x : Str} {C : Addr} {p pos : Pos} (O : Own0 X.K X.mg x C) (hg : Gl X x := by rfl) (hdb : (x == ("__debug__" : Str)) = false := by decide) : PMk X (.Call (.Name x p) [] [] pos) (fun σ H Q => Q (.ref C) none H) :=
  pmk_own0 PySem.F.excBase_ValueError O.q O.g O.k (raises_own O.ex O.ty) hg hdb
section
variable {P : Program} {w : World} {K : PySem.W.Frag} {mg : Str → Option Value} {base : Heap} {c : Cs}
theorem DefAt.df {CX : CXT} {k : Nat} {x : Str} {st : Stmt} {ps : List Str} {sp : Sp} (D : DefAt K mg x st ps) (h : ∀ f fd, Fun K x x st f fd → FnOk P w K mg base CX k f fd ps sp) : Df P w K mg base CX k x ps sp := by
  obtain ⟨f, fd, F, g, b⟩ := D.ex
  exact ⟨f, fd, h f fd F, g, F.kp, b⟩
/-! ### is_voice, is_in, need_number, need_way -/
def spVoice : Sp := fun vs H Q _ => ∃ v t, vs = [v] ∧ Kd H v t ∧ Q (.bl (strIn v VOI)) H
theorem ok_is_voice (M : Md P K mg c) (D : DefAt K mg "is_voice" s_is_voice ["value"]) : Df P w K mg base CX0 1 "is_voice" ["value"] spVoice := by
  refine D.df fun f fd F => F.ok sc_is_voice (fun vs H Q E h => ?_) (fun cdv A outer s H vs Q E hr h => ?_)
  · obtain ⟨v, t, rfl, _⟩ := h
    rfl
  · obtain ⟨v, t, rfl, kd, q⟩ := h
    obtain ⟨aV, kV⟩ := M.voices
    refine ⟨_, pss_one (ps_ret (pe_and (pe_isi M.isinst M.tstr boot_str (pv 0)) (pe_one (pe_cmpR op_in_seq (pv 0) (pe_glob (v := .ref aV) rfl kV.g rfl) (by with_unfolding_all rfl))))), ?_⟩
    refine ⟨v, rfl, v, t, _, rfl, kd, kd.kStr, _, rfl, ?_⟩
    unfold strIn at q
    cases e : isStr v with
    | false =>
      rw [e] at q
      exact iteF q
    | true =>
      rw [e] at q
      exact iteT ⟨v, rfl, aV, VOI, rfl, .inr (kV.s _), flat_of_str e, rfl, q⟩
def spIn : Sp := fun vs H Q _ => ∃ v t lo hi, vs = [v, .int lo, .int hi] ∧ Kd H v t ∧ Q (.bl (intIn v lo hi)) H
theorem ok_is_in (M : Md P K mg c) (D : DefAt K mg "is_in" s_is_in ["value", "least", "most"]) : Df P w K mg base CX0 1 "is_in" ["value", "least", "most"] spIn := by
  refine D.df fun f fd F => F.ok sc_is_in (fun vs H Q E h => ?_) (fun cdv A outer s H vs Q E hr h => ?_)
  · obtain ⟨v, t, lo, hi, rfl, _⟩ := h
    rfl
  · obtain ⟨v, t, lo, hi, rfl, kd, q⟩ := h
    refine ⟨_, pss_one (ps_ret (pe_and (pe_isi M.isinst M.tint boot_int (pv 0)) (pe_and (pe_not (pe_isi M.isinst M.tbool boot_bool (pv 0))) (pe_one (pe_chain op_le op_le (pv 1) (pv 0) (pv 2)))))), ?_⟩
    refine ⟨v, rfl, v, t, _, rfl, kd, kd.kInt, _, rfl, ?_⟩
    cases e : isInt v with
    | false =>
      have e2 : intIn v lo hi = false := by cases v <;> first | rfl | cases e
      rw [e2] at q
      exact iteF q
    | true =>
      refine iteT ⟨v, rfl, v, t, _, rfl, kd, kd.kBl, _, rfl, _, rfl, ?_⟩
      cases e2 : isBl v with
      | true =>
        have e3 : intIn v lo hi = false := by cases v <;> first | rfl | (cases e; done) | (cases e2; done)
        rw [e3] at q
        exact iteF q
      | false =>
        obtain ⟨i, rfl⟩ := int_of e e2
        refine iteT ⟨_, rfl, _, rfl, lo, i, rfl, rfl, _, rfl, ?_⟩
        have q : Q (.bl (decide (lo ≤ i) && decide (i ≤ hi))) H := q
        by_cases h1 : lo ≤ i
        · rw [decide_eq_true h1, Bool.true_and] at q
          rw [if_pos (decide_eq_true h1)]
          exact ⟨_, rfl, i, hi, rfl, rfl, q⟩
        · rw [decide_eq_false h1, Bool.false_and] at q
          rw [if_neg (by rw [decide_eq_false h1]; exact Bool.false_ne_true)]
          exact q
def spNumber (c : Cs) : Sp := fun vs H Q E => ∃ v t lo hi, vs = [v, .int lo, .int hi] ∧ Kd H v t ∧ intIn v lo hi = false ∧ E (.ref c.num) none H
theorem ok_need_number (M : Md P K mg c) (D : DefAt K mg "need_number" s_need_number ["value", "least", "most"]) (G : Df P w K mg base CX0 1 "is_in" ["value", "least", "most"] spIn) :
    Df P w K mg base (L2.CX P w) 2 "need_number" ["value", "least", "most"] (spNumber c) := by
  refine D.df fun f fd F => F.okX sc_need_number (fun vs H Q E h => ?_) (fun cdv A outer s H vs Q E hr h => ?_)
  · obtain ⟨v, t, lo, hi, rfl, _⟩ := h
    rfl
  · obtain ⟨v, t, lo, hi, rfl, kd, e, q⟩ := h
    refine ⟨_, pss_one (ps_if (pt_not (pt_val (Df.pe G hr (pa_cons (pv 0) (pa_cons (pv 1) (pa_cons (pv 2) pa_nil)))))) (pss_one (ps_raise rfl (takes_of rfl rfl rfl rfl) (pmk0 M.cNum))) pss_nil), ?_⟩
    refine ⟨v, rfl, _, rfl, _, rfl, v, t, lo, hi, rfl, kd, _, rfl, ?_⟩
    rw [e]
    exact iteT q
def spWay (c : Cs) : Sp := fun vs H Q E => ∃ v t, vs = [v] ∧ Kd H v t ∧ (strIn v WAY = true → Q .non H) ∧ (strIn v WAY = false → E (.ref c.way) none H)
theorem ok_need_way (M : Md P K mg c) (D : DefAt K mg "need_way" s_need_way ["way"]) : Df P w K mg base (L2.CX P w) 1 "need_way" ["way"] (spWay c) := by
  refine D.df fun f fd F => F.okX sc_need_way (fun vs H Q E h => ?_) (fun cdv A outer s H vs Q E hr h => ?_)
  · obtain ⟨v, t, rfl, _⟩ := h
    rfl
  · obtain ⟨v, t, rfl, kd, q1, q2⟩ := h
    obtain ⟨aV, kV⟩ := M.ways
    refine ⟨_, pss_one (ps_if (PW.pt (pw_or (pt_not (pt_val (pe_isi M.isinst M.tstr boot_str (pv 0)))) (pw_or1 (pt_cmpR op_notIn_seq (pv 0) (pe_glob (v := .ref aV) rfl kV.g rfl) (by with_unfolding_all rfl))))) (pss_one (ps_raise rfl (takes_of rfl rfl rfl rfl) (pmk0 M.cWay))) pss_nil), ?_⟩
    refine ⟨v, rfl, v, t, _, rfl, kd, kd.kStr, _, rfl, ?_⟩
    unfold strIn at q1 q2
    cases e : isStr v with
    | false =>
      rw [e] at q2
      exact iteT (iteT (q2 rfl))
    | true =>
      rw [e] at q1 q2
      refine iteF ⟨v, rfl, aV, WAY, rfl, .inr (kV.s _), flat_of_str e, rfl, _, rfl, ?_⟩
      cases e2 : inV v WAY with
      | false => exact iteT (q2 (by rw [e2] <;> rfl))
      | true => exact iteF (q1 (by rw [e2] <;> rfl))
end
end Rv

/-! ## RvProg2 -/
/-! need_row and the entries that check a way, a row, a number. -/
namespace Rv
open PySem PySem.Spec PyProof.Rows L2
theorem ifT {c : Bool} {A B : Prop} (hc : c = true) (h : A) : if c = true then A else B := by
  rw [if_pos hc]
  exact h
theorem ifF {c : Bool} {A B : Prop} (hc : c = false) (h : B) : if c = true then A else B := by
  rw [hc, if_neg Bool.false_ne_true]
  exact h
theorem kd_of_str {H : Hp} {v : V} (h : isStr v = true) : Kd H v "str" := by
  cases v <;> first | exact .str _ | (cases h; done)
theorem kd_of_in {H : Hp} {v : V} {xs : List V} (h : strIn v xs = true) : Kd H v "str" := by
  unfold strIn at h
  rw [Bool.and_eq_true] at h
  exact kd_of_str h.1
/-- a row that need_row refuses, and the index that it tells -/
inductive RowBad (H : Hp) : V → V → Prop where
  | kind {v : V} {t : String} (k : Kd H v t) (n : (t == "tuple") = false) : RowBad H v .non
  | len {a : Addr} {xs : List V} (e : H a = some (.tup xs)) (n : ¬ (1 ≤ xs.length ∧ xs.length ≤ 12)) : RowBad H (.ref a) .non
  | item {a : Addr} {xs : List V} {i : Nat} {y : V} {t : String} (e : H a = some (.tup xs)) (n : 1 ≤ xs.length ∧ xs.length ≤ 12) (g : ∀ j z, j < i → xs[j]? = some z → strIn z VOI = true) (h : xs[i]? = some y) (k : Kd H y t)
      (b : strIn y VOI = false) : RowBad H (.ref a) (.int i)
theorem RowBad.same {H H' : Hp} {v u : V} (s : Same H H') (r : RowBad H v u) : RowBad H' v u := by
  cases r with
  | kind k n => exact .kind (k.same s) n
  | len e n => exact .len (s _ _ e) n
  | item e n g h k b => exact .item (s _ _ e) n g h (k.same s) b
/-- what is wished of an error with an index -/
abbrev IxW (C : Addr) (due : V) (E : XK) (H : Hp) : Prop := ∀ d, H d = none → E (.ref C) (some d) (upd H d (ixD due))
section
variable {P : Program} {w : World} {K : PySem.W.Frag} {mg : Str → Option Value} {base : Heap} {c : Cs}
def spRow (c : Cs) : Sp := fun vs H _ E => ∃ v due, vs = [v] ∧ RowBad H v due ∧ IxW c.row due E H
theorem ok_need_row (M : Md P K mg c) (D : DefAt K mg "need_row" s_need_row ["value"]) (G : Df P w K mg base CX0 1 "is_voice" ["value"] spVoice) : Df P w K mg base (L2.CX P w) 2 "need_row" ["value"] (spRow c) := by
  refine D.df fun f fd F => F.okX sc_need_row (fun vs H Q E h => ?_) (fun cdv A outer s H vs Q E hr h => ?_)
  · obtain ⟨v, due, rfl, _⟩ := h
    rfl
  · obtain ⟨v, due, rfl, bad, q⟩ := h
    obtain ⟨fR, TR⟩ := M.cRow
    obtain ⟨tM, gM⟩ := M.mostRow
    have tk := takes_of (X := cxOf (L2.CX P w) P w K mg base N_need_row "need_row" (defScope s_need_row) f cdv A outer s H E) (E₁ := fun e' s'' => L2.CX P w outer H s E e' s'') rfl rfl rfl rfl
    refine ⟨_, pss_cons (ps_if (PW.pt (pw_or (pt_not (pt_val (pe_isi M.isinst M.ttuple boot_tuple (pv 0))))
          (pw_or1 (pt_not (pt_chain op_le op_le pe_int (pe_callB call_len_seq rfl M.len boot_len (pa_cons (pv 0) pa_nil)) (pe_glob (v := .int 12) rfl gM ⟨tM, rfl⟩))))))
        (pss_one (ps_raise rfl tk (pmk_ix TR hr (pa_cons pe_non pa_nil) rfl (by decide)))) pss_nil)
      (pss_one (ps_for (passes_of rfl) rfl (pi_range1 rfl M.range (pa_cons (pe_callB call_len_seq rfl M.len boot_len (pa_cons (pv 0) pa_nil)) pa_nil)) (pg_name (i := 1) sc_need_row.nd rfl (.inl rfl))
        (pss_one (ps_if (pt_not (pt_val (Df.pe G hr (pa_cons (pe_ix ix_tup (pv 0) (pv 1) (fun _ _ => rfl)) pa_nil)))) (pss_one (ps_raise rfl tk (pmk_ix TR hr (pa_cons (pv 1) pa_nil) rfl (by decide)))) pss_nil)))), ?_⟩
    cases bad with
    | kind k n =>
      refine ⟨v, rfl, v, _, _, rfl, k, k.kTup, _, rfl, ?_⟩
      rw [n]
      exact iteT (iteT ⟨.non, rfl, q⟩)
    | @len a xs e n =>
      have hT : ∀ {K}, SqT K H a xs := .inl (.inl e)
      refine ⟨.ref a, rfl, _, _, _, rfl, .tup e, (Kd.tup e).kTup, _, rfl, iteF ?_⟩
      refine ⟨.ref a, rfl, a, xs, rfl, .inr hT, 1, (xs.length : Int), rfl, rfl, _, rfl, ?_⟩
      by_cases h1 : (1 : Int) ≤ (xs.length : Int)
      · rw [if_pos (decide_eq_true h1)]
        have h2 : ¬ ((xs.length : Int) ≤ 12) := by omega
        refine ⟨_, 12, rfl, rfl, _, rfl, ?_⟩
        exact ifT (by rw [decide_eq_false h2] <;> rfl) ⟨.non, rfl, q⟩
      · rw [if_neg (by rw [decide_eq_false h1]; exact Bool.false_ne_true)]
        exact ⟨_, rfl, ifT rfl ⟨.non, rfl, q⟩⟩
    | @item a xs i y t e n g hy k b =>
      have hT : ∀ {K}, SqT K H a xs := .inl (.inl e)
      have h1 : (1 : Int) ≤ (xs.length : Int) := by omega
      have h2 : (xs.length : Int) ≤ 12 := by omega
      have hi : i < xs.length := by
        rcases Nat.lt_or_ge i xs.length with z | z
        · exact z
        · rw [List.getElem?_eq_none z] at hy
          cases hy
      refine ⟨.ref a, rfl, _, _, _, rfl, .tup e, (Kd.tup e).kTup, _, rfl, iteF ?_⟩
      refine ⟨.ref a, rfl, a, xs, rfl, .inr hT, 1, (xs.length : Int), rfl, rfl, _, rfl, ?_⟩
      rw [if_pos (decide_eq_true h1)]
      refine ⟨_, 12, rfl, rfl, _, rfl, ?_⟩
      refine ifF (by rw [decide_eq_true h2] <;> rfl) ?_
      refine ⟨.ref a, rfl, a, xs, rfl, .inr hT, (xs.length : Int), rfl, by omega, by omega, ?_⟩
      refine for_range (fun j σ H' => j ≤ i ∧ (∃ z, σ = [some (.ref a), z]) ∧ H' = H) ⟨Nat.zero_le _, ⟨_, rfl⟩, rfl⟩ (fun j σ H' hj hP => ?_) (fun σ H' hP => ?_)
      · obtain ⟨le, ⟨z0, rfl⟩, rfl⟩ := hP
        have hj' : j < xs.length := hj
        have ej : xs[j]? = some xs[j] := List.getElem?_eq_getElem hj'
        have ea : atI xs (0 + (j : Int)) = some xs[j] := by
          rw [Int.zero_add]
          exact atI_nat ej
        by_cases c1 : j < i
        · have gz := g j _ c1 ej
          refine ⟨.ref a, rfl, .int (0 + (j : Int)), rfl, a, xs, 0 + (j : Int), xs[j], rfl, rfl, hT, ea, xs[j], _, rfl, kd_of_in gz, _, rfl, ?_⟩
          rw [gz]
          exact iteF ⟨c1, ⟨_, rfl⟩, rfl⟩
        · have eji : j = i := by omega
          subst eji
          have ey : xs[j] = y := Option.some.inj (ej.symm.trans hy)
          refine ⟨.ref a, rfl, .int (0 + (j : Int)), rfl, a, xs, 0 + (j : Int), y, rfl, rfl, hT, by rw [ea, ey], y, _, rfl, k, _, rfl, ?_⟩
          rw [b]
          refine iteT ⟨.int (0 + (j : Int)), rfl, _, rfl, ?_⟩
          rw [Int.zero_add]
          exact q
      · have := hP.1
        have z : xs.length ≤ i := hP.1
        omega
/-! ### need_both and what calls it -/
def BothBad (c : Cs) (H : Hp) (v u : V) (E : XK) : Prop := (strIn v WAY = false ∧ E (.ref c.way) none H) ∨ (strIn v WAY = true ∧ ∃ due, RowBad H u due ∧ IxW c.row due E H)
def spBoth (c : Cs) : Sp := fun vs H _ E => ∃ v u t, vs = [v, u] ∧ Kd H v t ∧ BothBad c H v u E
theorem ok_need_both (M : Md P K mg c) (D : DefAt K mg "need_both" s_need_both ["way", "row"]) (G : Df P w K mg base (L2.CX P w) 1 "need_way" ["way"] (spWay c)) (G2 : Df P w K mg base (L2.CX P w) 2 "need_row" ["value"] (spRow c)) :
    Df P w K mg base (L2.CX P w) 3 "need_both" ["way", "row"] (spBoth c) := by
  refine D.df fun f fd F => F.okX sc_need_both (fun vs H Q E h => ?_) (fun cdv A outer s H vs Q E hr h => ?_)
  · obtain ⟨v, u, t, rfl, _⟩ := h
    rfl
  · obtain ⟨v, u, t, rfl, kd, bad⟩ := h
    have tk := takes_of (X := cxOf (L2.CX P w) P w K mg base N_need_both "need_both" (defScope s_need_both) f cdv A outer s H E) (E₁ := fun e' s'' => L2.CX P w outer H s E e' s'') rfl rfl rfl rfl
    refine ⟨_, pss_cons (ps_expr (Df.peS G (hr.mono (by decide)) tk (pa_cons (pv 0) pa_nil))) (pss_one (ps_expr (Df.peS G2 hr tk (pa_cons (pv 1) pa_nil)))), ?_⟩
    refine ⟨v, rfl, v, t, rfl, kd, fun y => ?_, fun n => ?_⟩
    · rcases bad with ⟨z, _⟩ | ⟨_, due, rb, q⟩
      · rw [y] at z
        cases z
      · exact ⟨u, rfl, u, due, rfl, rb, q⟩
    · rcases bad with ⟨_, q⟩ | ⟨z, _⟩
      · exact q
      · rw [n] at z
        cases z
theorem ok_answer (M : Md P K mg c) (D : DefAt K mg "answer" s_answer ["way", "row"]) (G : Df P w K mg base (L2.CX P w) 3 "need_both" ["way", "row"] (spBoth c)) : Df P w K mg base (L2.CX P w) 4 "answer" ["way", "row"] (spBoth c) := by
  refine D.df fun f fd F => F.okX sc_answer (fun vs H Q E h => ?_) (fun cdv A outer s H vs Q E hr h => ?_)
  · obtain ⟨v, u, t, rfl, _⟩ := h
    rfl
  · obtain ⟨v, u, t, rfl, kd, bad⟩ := h
    refine ⟨_, pss_cons (ps_expr (Df.peS G hr (takes_of rfl rfl rfl rfl) (pa_cons (pv 0) (pa_cons (pv 1) pa_nil)))) pss_never, ?_⟩
    exact ⟨v, rfl, u, rfl, v, u, t, rfl, kd, bad⟩
theorem ok_matters (M : Md P K mg c) (D : DefAt K mg "matters" s_matters ["way", "row"]) (G : Df P w K mg base (L2.CX P w) 3 "need_both" ["way", "row"] (spBoth c)) : Df P w K mg base (L2.CX P w) 4 "matters" ["way", "row"] (spBoth c) := by
  refine D.df fun f fd F => F.okX sc_matters (fun vs H Q E h => ?_) (fun cdv A outer s H vs Q E hr h => ?_)
  · obtain ⟨v, u, t, rfl, _⟩ := h
    rfl
  · obtain ⟨v, u, t, rfl, kd, bad⟩ := h
    refine ⟨_, pss_cons (ps_expr (Df.peS G hr (takes_of rfl rfl rfl rfl) (pa_cons (pv 0) (pa_cons (pv 1) pa_nil)))) pss_never, ?_⟩
    exact ⟨v, rfl, u, rfl, v, u, t, rfl, kd, bad⟩
/-- a way that is none -/
def spWB (c : Cs) : Sp := fun vs H _ E => ∃ v t, vs = [v] ∧ Kd H v t ∧ strIn v WAY = false ∧ E (.ref c.way) none H
theorem not_true {b : Bool} {A : Prop} (h : b = false) : b = true → A := fun z => by
  rw [h] at z
  cases z
theorem not_false {b : Bool} {A : Prop} (h : b = true) : b = false → A := fun z => by
  rw [h] at z
  cases z
theorem ok_table_of (M : Md P K mg c) (D : DefAt K mg "table_of" s_table_of ["way"]) (G : Df P w K mg base (L2.CX P w) 1 "need_way" ["way"] (spWay c)) : Df P w K mg base (L2.CX P w) 2 "table_of" ["way"] (spWB c) := by
  refine D.df fun f fd F => F.okX sc_table_of (fun vs H Q E h => ?_) (fun cdv A outer s H vs Q E hr h => ?_)
  · obtain ⟨v, t, rfl, _⟩ := h
    rfl
  · obtain ⟨v, t, rfl, kd, bad, q⟩ := h
    refine ⟨_, pss_cons (ps_expr (Df.peS G hr (takes_of rfl rfl rfl rfl) (pa_cons (pv 0) pa_nil))) pss_never, ?_⟩
    exact ⟨v, rfl, v, t, rfl, kd, not_true bad, fun _ => q⟩
/-- a way and a length, one of them bad -/
def spWN (c : Cs) : Sp := fun vs H _ E => ∃ v u t, vs = [v, u] ∧ Kd H v t ∧ ((strIn v WAY = false ∧ E (.ref c.way) none H) ∨ (strIn v WAY = true ∧ ∃ t', Kd H u t' ∧ intIn u 1 60 = false ∧ E (.ref c.num) none H))
theorem ok_count_allowed (M : Md P K mg c) (D : DefAt K mg "count_allowed" s_count_allowed ["way", "length"]) (G : Df P w K mg base (L2.CX P w) 1 "need_way" ["way"] (spWay c)) (G2 : Df P w K mg base (L2.CX P w) 2 "need_number" ["value", "least", "most"] (spNumber c)) :
    Df P w K mg base (L2.CX P w) 3 "count_allowed" ["way", "length"] (spWN c) := by
  refine D.df fun f fd F => F.okX sc_count_allowed (fun vs H Q E h => ?_) (fun cdv A outer s H vs Q E hr h => ?_)
  · obtain ⟨v, u, t, rfl, _⟩ := h
    rfl
  · obtain ⟨v, u, t, rfl, kd, bad⟩ := h
    obtain ⟨tM, gM⟩ := M.mostLen
    have tk := takes_of (X := cxOf (L2.CX P w) P w K mg base N_count_allowed "count_allowed" (defScope s_count_allowed) f cdv A outer s H E) (E₁ := fun e' s'' => L2.CX P w outer H s E e' s'') rfl rfl rfl rfl
    refine ⟨_, pss_cons (ps_expr (Df.peS G (hr.mono (by decide)) tk (pa_cons (pv 0) pa_nil))) (pss_cons (ps_expr (Df.peS G2 hr tk (pa_cons (pv 1) (pa_cons pe_int (pa_cons (pe_glob (v := .int 60) rfl gM ⟨tM, rfl⟩) pa_nil))))) pss_never), ?_⟩
    refine ⟨v, rfl, v, t, rfl, kd, fun y => ?_, fun n => ?_⟩
    · rcases bad with ⟨z, _⟩ | ⟨_, t', k', e, q⟩
      · exact not_true z y
      · exact ⟨u, rfl, u, t', 1, 60, rfl, k', e, q⟩
    · rcases bad with ⟨_, q⟩ | ⟨z, _⟩
      · exact q
      · exact not_false z n
theorem ok_power (M : Md P K mg c) (D : DefAt K mg "power" s_power ["way", "length"]) (G : Df P w K mg base (L2.CX P w) 1 "need_way" ["way"] (spWay c)) (G2 : Df P w K mg base (L2.CX P w) 2 "need_number" ["value", "least", "most"] (spNumber c)) :
    Df P w K mg base (L2.CX P w) 3 "power" ["way", "length"] (spWN c) := by
  refine D.df fun f fd F => F.okX sc_power (fun vs H Q E h => ?_) (fun cdv A outer s H vs Q E hr h => ?_)
  · obtain ⟨v, u, t, rfl, _⟩ := h
    rfl
  · obtain ⟨v, u, t, rfl, kd, bad⟩ := h
    obtain ⟨tM, gM⟩ := M.mostLen
    have tk := takes_of (X := cxOf (L2.CX P w) P w K mg base N_power "power" (defScope s_power) f cdv A outer s H E) (E₁ := fun e' s'' => L2.CX P w outer H s E e' s'') rfl rfl rfl rfl
    refine ⟨_, pss_cons (ps_expr (Df.peS G (hr.mono (by decide)) tk (pa_cons (pv 0) pa_nil))) (pss_cons (ps_expr (Df.peS G2 hr tk (pa_cons (pv 1) (pa_cons pe_int (pa_cons (pe_glob (v := .int 60) rfl gM ⟨tM, rfl⟩) pa_nil))))) pss_never), ?_⟩
    refine ⟨v, rfl, v, t, rfl, kd, fun y => ?_, fun n => ?_⟩
    · rcases bad with ⟨z, _⟩ | ⟨_, t', k', e, q⟩
      · exact not_true z y
      · exact ⟨u, rfl, u, t', 1, 60, rfl, k', e, q⟩
    · rcases bad with ⟨_, q⟩ | ⟨z, _⟩
      · exact q
      · exact not_false z n
/-! ### Desk -/
def spDesk (c : Cs) : Sp := fun vs H _ E => ∃ x v t, vs = [x, v] ∧ Kd H v t ∧ strIn v WAY = false ∧ E (.ref c.way) none H
theorem ok_Desk_init {f : Addr} {fd : FuncData} (M : Md P K mg c) (F : Fun K "__init__" "Desk.__init__" s_Desk_init f fd) (G : Df P w K mg base (L2.CX P w) 1 "need_way" ["way"] (spWay c)) : FnOk P w K mg base (L2.CX P w) 2 f fd ["self", "way"] (spDesk c) := by
  refine F.okX sc_Desk_init (fun vs H Q E h => ?_) (fun cdv A outer s H vs Q E hr h => ?_)
  · obtain ⟨x, v, t, rfl, _⟩ := h
    rfl
  · obtain ⟨x, v, t, rfl, kd, bad, q⟩ := h
    refine ⟨_, pss_cons (ps_expr (Df.peS G hr (takes_of rfl rfl rfl rfl) (pa_cons (pv 1) pa_nil))) pss_never, ?_⟩
    exact ⟨v, rfl, v, t, rfl, kd, not_true bad, fun _ => q⟩
end
end Rv

/-! ## RvProg3 -/
/-! need_promise, need_promises and what calls them. Printed by gen_prog3.py. -/
namespace Rv
open PySem PySem.Spec PyProof.Rows L2
theorem sm_upd {H : Hp} {p : Addr} {o : HO} (h : H p = none) : Same H (upd H p o) := fun b x e => by
  rw [upd_ne (ne_of_none e h)]
  exact e
theorem sm_upd2 {H0 H : Hp} {D : Addr} {o : HO} (s : Same H0 H) (n : H0 D = none) : Same H0 (upd H D o) := fun b x e => by
  rw [upd_ne (ne_of_none e n)]
  exact s _ _ e
theorem sm_seqT {K : PySem.W.Frag} {H H' : Hp} {a : Addr} {xs : List V} (e : Same H H') (h : SqT K H a xs) : SqT K H' a xs := by
  rcases h with (h | ⟨o, h⟩) | h
  · exact .inl (.inl (e _ _ h))
  · exact .inl (.inr ⟨o, e _ _ h⟩)
  · exact .inr h
/-- a comprehension over a tuple that maps every item -/
theorem lcT_map {K : PySem.W.Frag} {a : Addr} {xs : List V} {g : TG} {te : TE} {vs : List Nat} {σ : L2.St} {H1 : Hp} {D : Addr} {Qd : Hp → Prop} (f : V → V) (nD : H1 D = none) (hT : SqT K H1 a xs) (hz : xs.length ≤ sizeLine)
    (step : ∀ (i : Nat) x H (Q : VK), xs[i]? = some x → Same H1 H → (∀ H4, Same H H4 → Q (f x) H4) → g x (wipe σ vs) H fun σ2 H2 => wipe σ2 vs = wipe σ vs ∧ te σ2 H2 Q)
    (hd : ∀ H', Same H1 H' → H' D = some (.lst (xs.map f)) → Qd H') :
    ∃ W : Nat → Nat → Hp → Prop, (∃ m, W 0 m (upd H1 D (.lst []))) ∧ ∀ i m H, W i m H →
      ((Itt K a).stop i H ∧ Qd H) ∨ ((Itt K a).go i H ∧ ∃ Nx : Hp → Prop, (∀ H', Nx H' → ∃ m', m' < m ∧ W (i + 1) m' H') ∧ ∀ x H', (Itt K a).yld i H x H' → g x (wipe σ vs) H' fun σ2 H2 => wipe σ2 vs = wipe σ vs ∧ tYes σ2 H2 fun b H3 =>
        if b = true then te σ2 H3 fun y H4 => ∃ acc, H4 D = some (.lst acc) ∧ acc.length < sizeLine ∧ Nx (upd H4 D (.lst (acc ++ [y]))) else Nx H3) := by
  refine ⟨fun i m H => m = xs.length - i ∧ i ≤ xs.length ∧ Same H1 H ∧ H D = some (.lst ((xs.take i).map f)), ⟨_, rfl, Nat.zero_le _, sm_upd nD, upd_same⟩, fun i m H hW => ?_⟩
  obtain ⟨rfl, hi, sm, eD⟩ := hW
  have hT' := sm_seqT sm hT
  by_cases c : i < xs.length
  · have ex : xs[i]? = some xs[i] := List.getElem?_eq_getElem c
    refine .inr ⟨⟨xs, xs[i], hT', ex⟩, fun H' => i + 1 ≤ xs.length ∧ Same H1 H' ∧ H' D = some (.lst ((xs.take (i + 1)).map f)), fun H' h => ⟨_, by omega, rfl, h.1, h.2.1, h.2.2⟩, fun x H' hy => ?_⟩
    obtain ⟨rfl, fx⟩ := hy
    have e : x = xs[i] := Option.some.inj ((fx _ hT').symm.trans ex)
    subst e
    exact step i _ H' (fun y H4 => ∃ acc, H4 D = some (.lst acc) ∧ acc.length < sizeLine ∧ (i + 1 ≤ xs.length ∧ Same H1 (upd H4 D (.lst (acc ++ [y]))) ∧ (upd H4 D (.lst (acc ++ [y]))) D = some (.lst ((xs.take (i + 1)).map f)))) ex sm fun H4 s4 => by
      refine ⟨_, s4 _ _ eD, ?_, c, sm_upd2 (sm.trans s4) nD, ?_⟩
      · rw [List.length_map, List.length_take]
        omega
      · rw [upd_same, List.take_add_one, ex, List.map_append]
        rfl
  · refine .inl ⟨⟨xs, hT', by omega⟩, hd H sm ?_⟩
    rw [List.take_of_length_le (by omega)] at eD
    exact eD
section
variable {P : Program} {w : World} {K : PySem.W.Frag} {mg : Str → Option Value} {base : Heap} {c : Cs}
def spProm (c : Cs) : Sp := fun vs H _ E => ∃ v t, vs = [v] ∧ Kd H v t ∧ strIn v PRO = false ∧ E (.ref c.pro) none H
theorem ok_need_promise (M : Md P K mg c) (D : DefAt K mg "need_promise" s_need_promise ["promise"]) : Df P w K mg base (L2.CX P w) 1 "need_promise" ["promise"] (spProm c) := by
  refine D.df fun f fd F => F.okX sc_need_promise (fun vs H Q E h => ?_) (fun cdv A outer s H vs Q E hr h => ?_)
  · obtain ⟨v, t, rfl, _⟩ := h
    rfl
  · obtain ⟨v, t, rfl, kd, bad, q⟩ := h
    obtain ⟨aV, kV⟩ := M.pros
    refine ⟨_, pss_one (ps_if (PW.pt (pw_or (pt_not (pt_val (pe_isi M.isinst M.tstr boot_str (pv 0)))) (pw_or1 (pt_cmpR op_notIn_seq (pv 0) (pe_glob (v := .ref aV) rfl kV.g rfl) (by with_unfolding_all rfl))))) (pss_one (ps_raise rfl (takes_of rfl rfl rfl rfl) (pmk0 M.cPro))) pss_nil), ?_⟩
    refine ⟨v, rfl, v, t, _, rfl, kd, kd.kStr, _, rfl, ?_⟩
    unfold strIn at bad
    cases e : isStr v with
    | false => exact iteT (iteT q)
    | true =>
      rw [e, Bool.true_and] at bad
      exact iteF ⟨v, rfl, aV, PRO, rfl, .inr (kV.s _), flat_of_str e, rfl, _, rfl, ifT (by rw [if_pos rfl, bad] <;> rfl) q⟩
/-- a way and a promise, one of them bad -/
def spWP (c : Cs) : Sp := fun vs H _ E => ∃ v u t, vs = [v, u] ∧ Kd H v t ∧ ((strIn v WAY = false ∧ E (.ref c.way) none H) ∨ (strIn v WAY = true ∧ ∃ t', Kd H u t' ∧ strIn u PRO = false ∧ E (.ref c.pro) none H))
theorem ok_holds (M : Md P K mg c) (D : DefAt K mg "holds" s_holds ["way", "promise"]) (G : Df P w K mg base (L2.CX P w) 1 "need_way" ["way"] (spWay c)) (G2 : Df P w K mg base (L2.CX P w) 1 "need_promise" ["promise"] (spProm c)) :
    Df P w K mg base (L2.CX P w) 2 "holds" ["way", "promise"] (spWP c) := by
  refine D.df fun f fd F => F.okX sc_holds (fun vs H Q E h => ?_) (fun cdv A outer s H vs Q E hr h => ?_)
  · obtain ⟨v, u, t, rfl, _⟩ := h
    rfl
  · obtain ⟨v, u, t, rfl, kd, bad⟩ := h
    have tk := takes_of (X := cxOf (L2.CX P w) P w K mg base N_holds "holds" (defScope s_holds) f cdv A outer s H E) (E₁ := fun e' s'' => L2.CX P w outer H s E e' s'') rfl rfl rfl rfl
    refine ⟨_, pss_cons (ps_expr (Df.peS G hr tk (pa_cons (pv 0) pa_nil))) (pss_cons (ps_expr (Df.peS G2 hr tk (pa_cons (pv 1) pa_nil))) pss_never), ?_⟩
    refine ⟨v, rfl, v, t, rfl, kd, fun y => ?_, fun n => ?_⟩
    · rcases bad with ⟨z, _⟩ | ⟨_, t', k', e, q⟩
      · exact not_true z y
      · exact ⟨u, rfl, u, t', rfl, k', e, q⟩
    · rcases bad with ⟨_, q⟩ | ⟨z, _⟩
      · exact q
      · exact not_false z n
/-- promises that are refused -/
inductive PromsBad (H : Hp) : V → Prop where
  | kind {v : V} {t : String} (k : Kd H v t) (n : (t == "tuple") = false) : PromsBad H v
  | item {a : Addr} {xs : List V} (e : H a = some (.tup xs)) (z : xs.length ≤ 100) (k : ∀ (i : Nat) x, xs[i]? = some x → ∃ t, Kd H x t) (b : (xs.map fun x => strIn x PRO).all id = false) : PromsBad H (.ref a)
  | order {a : Addr} {x y : Str} (e : H a = some (.tup [.str x, .str y])) (b : strIn (.str x) PRO = true) (b2 : strIn (.str y) PRO = true) (n : decide (x.cps.toList < y.cps.toList) = false) : PromsBad H (.ref a)
theorem PromsBad.same {H H' : Hp} {v : V} (s : Same H H') (r : PromsBad H v) : PromsBad H' v := by
  cases r with
  | kind k n => exact .kind (k.same s) n
  | item e z k b => exact .item (s _ _ e) z (fun i x h => (k i x h).imp fun _ q => q.same s) b
  | order e b b2 n => exact .order (s _ _ e) b b2 n
def spProms (c : Cs) : Sp := fun vs H _ E => ∃ v, vs = [v] ∧ PromsBad H v ∧ ∀ H', Same H H' → E (.ref c.pros) none H'
theorem all_map {xs : List V} {f : V → Bool} : xs.map (fun x => V.bl (f x)) = (xs.map f).map V.bl := by
  rw [List.map_map]
  rfl
theorem ok_need_promises (M : Md P K mg c) (D : DefAt K mg "need_promises" s_need_promises ["wanted"]) : Df P w K mg base (L2.CX P w) 1 "need_promises" ["wanted"] (spProms c) := by
  refine D.df fun f fd F => F.okX sc_need_promises (fun vs H Q E h => ?_) (fun cdv A outer s H vs Q E hr h => ?_)
  · obtain ⟨v, rfl, _⟩ := h
    rfl
  · obtain ⟨v, rfl, bad, q⟩ := h
    obtain ⟨aV, kV⟩ := M.pros
    have tk := takes_of (X := cxOf (L2.CX P w) P w K mg base N_need_promises "need_promises" (defScope s_need_promises) f cdv A outer s H E) (E₁ := fun e' s'' => L2.CX P w outer H s E e' s'') rfl rfl rfl rfl
    refine ⟨_, pss_cons (ps_if (PW.pt (pw_or (pt_not (pt_val (pe_isi M.isinst M.ttuple boot_tuple (pv 0))))
          (pw_or1 (pt_not (pt_val (pe_callB (cr_all rfl) rfl M.all boot_all (pa_cons
            (pe_lc (own := [("one", 1)]) (te := tAndV (tIsi "str" (tVar 1)) (tOp (rIn K false) (tVar 1) (tC (.ref aV)))) rfl sc_need_promises.nd (pi_tup (pv 0)) (blkOk_by (N := N_need_promises) (sc := defScope s_need_promises) (by decide +kernel)) (fun _ _ _ _ _ => pg_name (i := 1) sc_need_promises.nd rfl (.inl rfl) (.inr rfl)) (fun _ _ _ _ _ => pts_nil)
              (fun _ _ _ _ _ => pe_and (pe_isi M.isinst M.tstr boot_str (pv 1)) (pe_one (pe_cmpR op_in_seq (pv 1) (pe_glob (v := .ref aV) rfl kV.g rfl) (by with_unfolding_all rfl))))) pa_nil)))))))
        (pss_one (ps_raise rfl tk (pmk0 M.cPros))) pss_nil)
      (pss_one (ps_if (pt_not (pt_val (pe_callB (cr_all rfl) rfl M.all boot_all (pa_cons
            (pe_lc (own := [("one", 1), ("other", 2)]) (g := gTup K 2 (gCons (gName 1) (gCons (gName 2) gNil))) rfl sc_need_promises.nd (RZ.pi_zipA rfl M.zip (pa_cons (pv 0) (pa_cons (pe_slice sl_tupA (pv 0) (po_some pe_int) po_none) pa_nil))) (blkOk_by (N := N_need_promises) (sc := defScope s_need_promises) (by decide +kernel))
              (fun _ _ _ _ _ => pg_tup rfl (pgs_cons (pg_name (i := 1) sc_need_promises.nd rfl (.inl rfl) (.inr rfl)) (pgs_cons (pg_name (i := 2) sc_need_promises.nd rfl (.inl rfl) (.inr rfl)) pgs_nil))) (fun _ _ _ _ _ => pts_nil)
              (fun _ _ _ _ _ => pe_cmpR op_lt_str (pv 1) (pv 2) (nomark _))) pa_nil))))
        (pss_one (ps_raise rfl tk (pmk0 M.cPros))) pss_nil)), ?_⟩
    have first : ∀ {a : Addr} {xs : List V} (D : Addr) {Qd : Hp → Prop}, H a = some (.tup xs) → xs.length ≤ 100 → (∀ (i : Nat) x, xs[i]? = some x → ∃ t, Kd H x t) → H D = none →
        (∀ H', Same H H' → H' D = some (.lst (xs.map fun x => V.bl (strIn x PRO))) → Qd H') → _ := fun {a xs} D {Qd} e z k nD hd =>
      lcT_map (K := K) (g := gName 1) (te := tAndV (tIsi "str" (tVar 1)) (tOp (rIn K false) (tVar 1) (tC (.ref aV)))) (vs := [1]) (σ := [some (V.ref a), none, none]) (fun x => V.bl (strIn x PRO)) nD (.inl (.inl e)) (Nat.le_trans z (by decide))
        (fun i x H2 Q2 ex sm k2 => by
          obtain ⟨t, kd⟩ := k i x ex
          have kd := kd.same sm
          refine ⟨rfl, x, rfl, x, t, _, rfl, kd, kd.kStr, _, rfl, ?_⟩
          have k2 := k2 H2 (Same.refl H2)
          unfold strIn at k2
          cases e : isStr x with
          | false =>
            rw [e] at k2
            exact iteF k2
          | true =>
            rw [e, Bool.true_and] at k2
            exact iteT ⟨x, rfl, aV, PRO, rfl, .inr (kV.s _), flat_of_str e, rfl, k2⟩) (Qd := Qd) hd
    cases bad with
    | kind k n =>
      refine ⟨v, rfl, v, _, _, rfl, k, k.kTup, _, rfl, ?_⟩
      rw [n]
      exact iteT (iteT (q H (Same.refl H)))
    | @item a xs e z k b =>
      refine ⟨.ref a, rfl, _, _, _, rfl, .tup e, (Kd.tup e).kTup, _, rfl, iteF ?_⟩
      refine ⟨.ref a, rfl, a, rfl, ⟨xs, .inl (.inl e)⟩, fun D nD => first D e z k nD fun H' sm eD => ?_⟩
      rw [all_map] at eD
      refine ⟨D, _, rfl, .inl (.inl eD), _, rfl, ?_⟩
      rw [b]
      exact iteT (q H' sm)
    | @order a x y e b b2 n =>
      refine ⟨.ref a, rfl, _, _, _, rfl, .tup e, (Kd.tup e).kTup, _, rfl, iteF ?_⟩
      refine ⟨.ref a, rfl, a, rfl, ⟨_, .inl (.inl e)⟩, fun D nD => first D e (show 2 ≤ 100 by decide) (fun i z h => ?_) nD fun H' sm eD => ?_⟩
      · match i, h with
        | 0, h =>
          cases h
          exact ⟨_, .str _⟩
        | 1, h =>
          cases h
          exact ⟨_, .str _⟩
      · rw [all_map] at eD
        refine ⟨D, _, rfl, .inl (.inl eD), _, rfl, ?_⟩
        have e1 : (([V.str x, V.str y].map fun x => strIn x PRO).all id) = true := by
          show (strIn (.str x) PRO && (strIn (.str y) PRO && true)) = true
          rw [b, b2] <;> rfl
        rw [e1]
        refine iteF ?_
        have eA : H' a = some (.tup [.str x, .str y]) := sm _ _ e
        refine ⟨.ref a, rfl, .ref a, rfl, 1, rfl, a, [.str x, .str y], rfl, .inl (.inl eA), fun hw => ?_, fun _ p np => ?_⟩
        · exact absurd hw.1 (show ¬ HT.sIx 2 0 (some 1) = 0 by decide)
        · have s2 : Same H' (upd H' p (.tup (cutV [.str x, .str y] (some 1) none))) := sm_upd np
          have eA2 := s2 _ _ eA
          have eP : (upd H' p (.tup (cutV [V.str x, V.str y] (some 1) none))) p = some (.tup [.str y]) := upd_same
          refine ⟨a, p, _, [.str y], rfl, .inr ⟨.inl (.inl eA2), .inl (.inl eP), fun D2 nD2 => ?_⟩⟩
          refine ⟨fun i m H3 => Same H H3 ∧ H3 a = some (.tup [.str x, .str y]) ∧ H3 p = some (.tup [.str y]) ∧ ((i = 0 ∧ m = 1 ∧ H3 D2 = some (.lst [])) ∨ (i = 1 ∧ m = 0 ∧ H3 D2 = some (.lst [.bl false]))),
            ⟨1, (sm.trans s2).trans (sm_upd nD2), (sm_upd nD2) _ _ eA2, (sm_upd nD2) _ _ eP, .inl ⟨rfl, rfl, upd_same⟩⟩, fun i m H3 hW => ?_⟩
          obtain ⟨sH, e3, p3, ⟨rfl, rfl, d3⟩ | ⟨rfl, rfl, d3⟩⟩ := hW
          · refine .inr ⟨⟨_, _, _, _, .inl (.inl e3), .inl (.inl p3), rfl, rfl⟩, fun H4 => Same H H4 ∧ H4 a = some (.tup [.str x, .str y]) ∧ H4 p = some (.tup [.str y]) ∧ H4 D2 = some (.lst [.bl false]), fun H4 h => ⟨0, by decide, h.1, h.2.1, h.2.2.1, .inr ⟨rfl, rfl, h.2.2.2⟩⟩, fun z H4 hy => ?_⟩
            obtain ⟨T, x1, y1, rfl, nT, rfl, f1, f2⟩ := hy
            have g1 : x1 = .str x := (Option.some.inj (f1 _ (.inl (.inl e3)))).symm
            have g2 : y1 = .str y := (Option.some.inj (f2 _ (.inl (.inl p3)))).symm
            subst g1
            subst g2
            have sT : Same H3 (upd H3 T (.tup [.str x, .str y])) := sm_upd nT
            refine ⟨T, _, rfl, .inl (.inl upd_same), rfl, _, _, rfl, _, _, rfl, rfl, rfl, ?_⟩
            refine ⟨.str x, rfl, .str y, rfl, x, y, rfl, rfl, [], sT _ _ d3, by decide, ?_⟩
            rw [n]
            have nD0 : D2 ≠ a := fun z => by
              rw [z, e3] at d3
              cases d3
            have nDp : D2 ≠ p := fun z => by
              rw [z, p3] at d3
              cases d3
            have nH : H D2 = none := sm.free (s2.free nD2)
            exact ⟨sm_upd2 (sH.trans sT) nH, by rw [upd_ne nD0.symm]; exact sT _ _ e3, by rw [upd_ne nDp.symm]; exact sT _ _ p3, upd_same⟩
          · refine .inl ⟨⟨_, _, .inl (.inl e3), .inl (.inl p3), .inr (show 1 ≤ 1 from Nat.le_refl _)⟩, D2, [false], rfl, .inl (.inl d3), _, rfl, ?_⟩
            exact iteT (q H3 sH)
theorem ok_can_hold (M : Md P K mg c) (D : DefAt K mg "can_hold" s_can_hold ["wanted"]) (G : Df P w K mg base (L2.CX P w) 1 "need_promises" ["wanted"] (spProms c)) : Df P w K mg base (L2.CX P w) 2 "can_hold" ["wanted"] (spProms c) := by
  refine D.df fun f fd F => F.okX sc_can_hold (fun vs H Q E h => ?_) (fun cdv A outer s H vs Q E hr h => ?_)
  · obtain ⟨v, rfl, _⟩ := h
    rfl
  · obtain ⟨v, rfl, bad, q⟩ := h
    refine ⟨_, pss_cons (ps_expr (Df.peS G hr (takes_of rfl rfl rfl rfl) (pa_cons (pv 0) pa_nil))) pss_never, ?_⟩
    exact ⟨v, rfl, v, rfl, bad, q⟩
theorem ok_keepers (M : Md P K mg c) (D : DefAt K mg "keepers" s_keepers ["wanted"]) (G : Df P w K mg base (L2.CX P w) 1 "need_promises" ["wanted"] (spProms c)) : Df P w K mg base (L2.CX P w) 2 "keepers" ["wanted"] (spProms c) := by
  refine D.df fun f fd F => F.okX sc_keepers (fun vs H Q E h => ?_) (fun cdv A outer s H vs Q E hr h => ?_)
  · obtain ⟨v, rfl, _⟩ := h
    rfl
  · obtain ⟨v, rfl, bad, q⟩ := h
    refine ⟨_, pss_cons (ps_expr (Df.peS G hr (takes_of rfl rfl rfl rfl) (pa_cons (pv 0) pa_nil))) pss_never, ?_⟩
    exact ⟨v, rfl, v, rfl, bad, q⟩
theorem ok_clashes (M : Md P K mg c) (D : DefAt K mg "clashes" s_clashes ["wanted"]) (G : Df P w K mg base (L2.CX P w) 1 "need_promises" ["wanted"] (spProms c)) : Df P w K mg base (L2.CX P w) 2 "clashes" ["wanted"] (spProms c) := by
  refine D.df fun f fd F => F.okX sc_clashes (fun vs H Q E h => ?_) (fun cdv A outer s H vs Q E hr h => ?_)
  · obtain ⟨v, rfl, _⟩ := h
    rfl
  · obtain ⟨v, rfl, bad, q⟩ := h
    refine ⟨_, pss_cons (ps_expr (Df.peS G hr (takes_of rfl rfl rfl rfl) (pa_cons (pv 0) pa_nil))) pss_never, ?_⟩
    exact ⟨v, rfl, v, rfl, bad, q⟩
theorem ok_can_add (M : Md P K mg c) (D : DefAt K mg "can_add" s_can_add ["wanted"]) (G : Df P w K mg base (L2.CX P w) 1 "need_promises" ["wanted"] (spProms c)) : Df P w K mg base (L2.CX P w) 2 "can_add" ["wanted"] (spProms c) := by
  refine D.df fun f fd F => F.okX sc_can_add (fun vs H Q E h => ?_) (fun cdv A outer s H vs Q E hr h => ?_)
  · obtain ⟨v, rfl, _⟩ := h
    rfl
  · obtain ⟨v, rfl, bad, q⟩ := h
    refine ⟨_, pss_cons (ps_expr (Df.peS G hr (takes_of rfl rfl rfl rfl) (pa_cons (pv 0) pa_nil))) pss_never, ?_⟩
    exact ⟨v, rfl, v, rfl, bad, q⟩
theorem ok_count_tables (M : Md P K mg c) (D : DefAt K mg "count_tables" s_count_tables ["wanted"]) (G : Df P w K mg base (L2.CX P w) 1 "need_promises" ["wanted"] (spProms c)) : Df P w K mg base (L2.CX P w) 2 "count_tables" ["wanted"] (spProms c) := by
  refine D.df fun f fd F => F.okX sc_count_tables (fun vs H Q E h => ?_) (fun cdv A outer s H vs Q E hr h => ?_)
  · obtain ⟨v, rfl, _⟩ := h
    rfl
  · obtain ⟨v, rfl, bad, q⟩ := h
    refine ⟨_, pss_cons (ps_expr (Df.peS G hr (takes_of rfl rfl rfl rfl) (pa_cons (pv 0) pa_nil))) pss_never, ?_⟩
    exact ⟨v, rfl, v, rfl, bad, q⟩
end
end Rv

/-! ## RvProg4 -/
/-! The short rows; need_table and what calls it. -/
namespace Rv
open PySem PySem.Spec PyProof.Rows L2
/-! ### rows, as data -/
def ext (r : List V) : List (List V) := [r ++ [.str "allow"], r ++ [.str "deny"]]
def rowsL : Nat → List (List V)
  | 0 => [[]]
  | n + 1 => (rowsL n).flatMap ext
def shortL : Nat → List (List V)
  | 0 => []
  | n + 1 => shortL n ++ rowsL (n + 1)
/-- tuples of those items stand there -/
def Tps (H : Hp) (vs : List V) (rs : List (List V)) : Prop := Paired (fun v r => ∃ a, v = V.ref a ∧ H a = some (.tup r)) vs rs
theorem Tps.imp {H H' : Hp} {vs : List V} {rs : List (List V)} (h : Tps H vs rs) (k : ∀ a r, H a = some (.tup r) → H' a = some (.tup r)) : Tps H' vs rs :=
  Paired.mapP h fun v r ⟨a, e, q⟩ => ⟨a, e, k _ _ q⟩
theorem Tps.same {H H' : Hp} {vs : List V} {rs : List (List V)} (s : Same H H') (h : Tps H vs rs) : Tps H' vs rs := h.imp fun _ _ => s _ _
theorem Tps.len {H : Hp} {vs : List V} {rs : List (List V)} (h : Tps H vs rs) : vs.length = rs.length := Paired.length h
theorem Tps.append {H : Hp} : ∀ {vs us : List V} {rs qs : List (List V)}, Tps H vs rs → Tps H us qs → Tps H (vs ++ us) (rs ++ qs)
  | _, _, _, _, .nil, s => s
  | _, _, _, _, .cons r t, s => .cons r (Tps.append t s)
theorem Tps.get {H : Hp} : ∀ {vs : List V} {rs : List (List V)} {i : Nat} {v : V}, Tps H vs rs → vs[i]? = some v → ∃ a r, v = V.ref a ∧ rs[i]? = some r ∧ H a = some (.tup r)
  | _, _, _, _, .nil, e => by simp at e
  | _, _, 0, _, .cons ⟨a, e1, e2⟩ _, e => by
    simp at e
    subst e
    exact ⟨a, _, e1, rfl, e2⟩
  | _, _, i + 1, v, .cons _ t, e => Tps.get (i := i) (v := v) t (by simpa using e)
theorem Tps.one {H : Hp} {a : Addr} {r : List V} (h : H a = some (.tup r)) : Tps H [V.ref a] [r] := .cons ⟨a, rfl, h⟩ .nil
theorem tY {Q : Bool → Hp → Prop} {σ : L2.St} {H : Hp} (h : Q true H) : tYes σ H Q := h
theorem flat_take {rs : List (List V)} {i : Nat} {r : List V} (h : rs[i]? = some r) : (rs.take (i + 1)).flatMap ext = (rs.take i).flatMap ext ++ ext r := by
  rw [List.take_add_one, h, List.flatMap_append]
  simp
theorem flat_len (rs : List (List V)) : (rs.flatMap ext).length = 2 * rs.length := by
  induction rs with
  | nil => rfl
  | cons r t ih =>
    rw [List.flatMap_cons, List.length_append, ih, List.length_cons]
    show 2 + 2 * t.length = 2 * (t.length + 1)
    omega
section
variable {P : Program} {w : World} {K : PySem.W.Frag} {mg : Str → Option Value} {base : Heap} {c : Cs}
def spRows : Sp := fun vs H Q _ => ∃ n : Nat, vs = [.int n] ∧ n ≤ 3 ∧ ∀ H' l us, Same H H' → H l = none → H' l = some (.lst us) → Tps H' us (rowsL n) → Q (.ref l) H'
theorem rowsL_len : ∀ n, n ≤ 3 → (rowsL n).length ≤ 8
  | 0, _ => by decide
  | 1, _ => by decide
  | 2, _ => by decide
  | 3, _ => by decide
  | n + 4, h => by omega
theorem rowsL_item : ∀ n, n ≤ 3 → ∀ r ∈ rowsL n, r.length ≤ 3
  | 0, _ => by decide
  | 1, _ => by decide
  | 2, _ => by decide
  | 3, _ => by decide
  | n + 4, h => by omega
theorem ok_rows_of (M : Md P K mg c) (D : DefAt K mg "rows_of" s_rows_of ["length"]) : Df P w K mg base CX0 1 "rows_of" ["length"] spRows := by
  refine D.df fun f fd F => F.ok sc_rows_of (fun vs H Q E h => ?_) (fun cdv A outer s H vs Q E hr h => ?_)
  · obtain ⟨n, rfl, _⟩ := h
    rfl
  · obtain ⟨n, rfl, hn, q⟩ := h
    obtain ⟨aV, kV⟩ := M.voices
    refine ⟨_, pss_cons (ps_set (i := 1) sc_rows_of.nd rfl (.inl rfl) (pe_lst (pa_cons (pe_tup pa_nil) pa_nil)))
      (pss_cons (ps_for PassesOwn.never rfl (pi_range1 rfl M.range (pa_cons (pv 0) pa_nil)) (pg_name (i := 2) sc_rows_of.nd rfl (.inl rfl))
          (pss_one (ps_setLc2 (i := 1) (own := [("row", 3), ("voice", 4)]) (vs1 := [4]) (wi1 := iTup K (tC (.ref aV))) (te := tTup (StX.tStar K (tVar 3) (tCons (tVar 4) tNil))) rfl sc_rows_of.nd rfl rfl (sw_true rfl rfl rfl (by decide +kernel)) (pi_list (pv 1)) (blkOk_by (N := N_rows_of) (sc := defScope s_rows_of) (by decide +kernel))
            (by decide) (fun _ _ _ _ _ => pg_name (i := 3) sc_rows_of.nd rfl (.inl rfl) (.inr rfl)) (fun _ _ _ _ _ => pts_nil) (fun _ _ _ _ _ => pi_tup (pe_glob (v := .ref aV) rfl kV.g rfl)) (fun _ _ _ _ _ => pg_name (i := 4) sc_rows_of.nd rfl (.inl rfl) (.inr rfl)) (fun _ _ _ _ _ => pts_nil)
            (fun _ _ _ _ _ => pe_tup (StX.pa_star (pv 3) (pa_cons (pv 4) pa_nil))))))
      (pss_one (ps_ret (pv 1)))), ?_⟩
    -- found = [()]
    refine ⟨Nat.zero_le _, fun p np => ⟨show 1 ≤ sizeLine by decide, fun l nl => ?_⟩⟩
    have s1 : Same H (upd H p (.tup [])) := sm_upd np
    have s2 : Same (upd H p (.tup [])) (upd (upd H p (.tup [])) l (.lst [.ref p])) := sm_upd nl
    have nH : H l = none := s1.free nl
    refine ⟨.int n, rfl, n, rfl, by omega, by omega, ?_⟩
    refine for_range (fun i σ H' => i ≤ n ∧ Same H H' ∧ ∃ l us z2 z3 z4, σ = [some (.int n), some (.ref l), z2, z3, z4] ∧ H l = none ∧ H' l = some (.lst us) ∧ Tps H' us (rowsL i))
      ⟨Nat.zero_le _, s1.trans s2, l, [.ref p], none, none, none, rfl, nH, upd_same, Tps.one (s2 _ _ upd_same)⟩ (fun i σ H1 hi hP => ?_) (fun σ H1 hP => ?_)
    · obtain ⟨_, sm, l, us, z2, z3, z4, rfl, nl, el, tp⟩ := hP
      have hi' : i < n := hi
      refine ⟨.ref l, rfl, l, rfl, ⟨us, .inl (.inl el)⟩, fun D nD => ?_⟩
      have hlen := tp.len
      have hsz := rowsL_len i (by omega)
      have nDl : l ≠ D := ne_of_none el nD
      refine ⟨fun j m H2 => m = us.length - j ∧ j ≤ us.length ∧ Same H1 H2 ∧ ∃ acc, H2 D = some (.lst acc) ∧ Tps H2 acc (((rowsL i).take j).flatMap ext), ⟨_, rfl, Nat.zero_le _, sm_upd nD, [], upd_same, .nil⟩, fun j m H2 hW => ?_⟩
      obtain ⟨rfl, hj, s12, acc, eD, tA⟩ := hW
      have el2 : H2 l = some (.lst us) := s12 _ _ el
      by_cases cj : j < us.length
      · have ex : us[j]? = some us[j] := List.getElem?_eq_getElem cj
        refine .inr ⟨⟨us, us[j], .inl (.inl el2), ex⟩, fun H3 => j + 1 ≤ us.length ∧ Same H1 H3 ∧ ∃ acc, H3 D = some (.lst acc) ∧ Tps H3 acc (((rowsL i).take (j + 1)).flatMap ext), fun H3 h3 => ⟨_, by omega, rfl, h3.1, h3.2⟩, fun x H3 hy => ?_⟩
        obtain ⟨rfl, fx⟩ := hy
        have e : x = us[j] := Option.some.inj ((fx _ (.inl (.inl el2))).symm.trans ex)
        subst e
        obtain ⟨a, r, ea, er, eH⟩ := tp.get ex
        rw [ea]
        have rl : r.length ≤ 3 := rowsL_item i (by omega) r (List.mem_of_getElem? er)
        refine ⟨rfl, tY (iteT ⟨aV, rfl, ⟨VOI, kV.s _⟩, ?_⟩)⟩
        refine ⟨fun k m H4 => m = 2 - k ∧ k ≤ 2 ∧ Same H1 H4 ∧ ∃ acc, H4 D = some (.lst acc) ∧ Tps H4 acc (((rowsL i).take j).flatMap ext ++ (ext r).take k), ⟨2, rfl, by decide, s12, acc, eD, by rw [List.take_zero, List.append_nil]; exact tA⟩, fun k m H4 hW1 => ?_⟩
        obtain ⟨rfl, hk, s14, acc4, eD4, tA4⟩ := hW1
        have lenA : acc4.length ≤ 100 := by
          rw [tA4.len, List.length_append, flat_len, List.length_take, List.length_take]
          show 2 * (min j (rowsL i).length) + min k 2 ≤ 100
          omega
        by_cases ck : k < 2
        · have gV : VOI[k]? = some (VOI[k]'ck) := List.getElem?_eq_getElem ck
          refine .inr ⟨⟨VOI, _, kV.s _, gV⟩, fun H5 => k + 1 ≤ 2 ∧ Same H1 H5 ∧ ∃ acc, H5 D = some (.lst acc) ∧ Tps H5 acc (((rowsL i).take j).flatMap ext ++ (ext r).take (k + 1)), fun H5 h5 => ⟨_, by omega, rfl, h5.1, h5.2⟩, fun y H5 hy => ?_⟩
          obtain ⟨rfl, fy⟩ := hy
          have ey : y = VOI[k]'ck := Option.some.inj ((fy _ (kV.s _)).symm.trans gV)
          refine ⟨rfl, tY (iteT ⟨.ref a, rfl, a, r, rfl, .inl (.inl (.inl (s14 _ _ eH))), y, rfl, ?_, fun p np => ?_⟩)⟩
          · rw [List.length_append]
            show r.length + 1 ≤ sizeLine
            rw [sizeLine_eq]
            omega
          · have sp : Same H5 (upd H5 p (.tup (r ++ [y]))) := sm_upd np
            have nDH : H1 D = none := nD
            have npD : p ≠ D := fun z => by
              rw [z, eD4] at np
              cases np
            refine ⟨acc4, sp _ _ eD4, by rw [sizeLine_eq]; omega, by omega, sm_upd2 (s14.trans sp) nD, acc4 ++ [.ref p], upd_same, ?_⟩
            have et : (ext r).take (k + 1) = (ext r).take k ++ [r ++ [y]] := by
              rw [ey]
              match k, ck with
              | 0, _ => rfl
              | 1, _ => rfl
            rw [et, ← List.append_assoc]
            have up : ∀ b t, H5 b = some (.tup t) → (upd (upd H5 p (.tup (r ++ [y]))) D (.lst (acc4 ++ [.ref p]))) b = some (.tup t) := fun b t z => by
              rw [upd_ne (fun e => by rw [e, eD4] at z; cases z)]
              exact sp _ _ z
            refine Tps.append (tA4.imp up) (Tps.one ?_)
            rw [upd_ne npD]
            exact upd_same
        · refine .inl ⟨⟨VOI, kV.s _, show 2 ≤ k by omega⟩, by omega, s14, acc4, eD4, ?_⟩
          have ek : (ext r).take k = ext r := List.take_of_length_le (show 2 ≤ k by omega)
          rw [ek] at tA4
          rw [flat_take er]
          exact tA4
      · refine .inl ⟨⟨us, .inl (.inl el2), by omega⟩, by omega, sm.trans s12, D, acc, _, _, _, rfl, sm.free nD, eD, ?_⟩
        · have ej : (rowsL i).take j = rowsL i := List.take_of_length_le (by rw [← hlen]; omega)
          rw [ej] at tA
          exact tA
    · obtain ⟨_, sm, l, us, z2, z3, z4, rfl, nl, el, tp⟩ := hP
      exact ⟨.ref l, rfl, q H1 l us sm nl el tp⟩
def spShort : Sp := fun vs H Q _ => ∃ n : Nat, vs = [.int n] ∧ n ≤ 3 ∧ ∀ H' l us, Same H H' → H l = none → H' l = some (.lst us) → Tps H' us (shortL n) → Q (.ref l) H'
theorem shortL_len : ∀ n, n ≤ 3 → (shortL n).length ≤ 14
  | 0, _ => by decide
  | 1, _ => by decide
  | 2, _ => by decide
  | 3, _ => by decide
  | n + 4, h => by omega
theorem ok_short_rows (M : Md P K mg c) (D : DefAt K mg "short_rows" s_short_rows ["most"]) (G : Df P w K mg base CX0 1 "rows_of" ["length"] spRows) : Df P w K mg base CX0 2 "short_rows" ["most"] spShort := by
  refine D.df fun f fd F => F.ok sc_short_rows (fun vs H Q E h => ?_) (fun cdv A outer s H vs Q E hr h => ?_)
  · obtain ⟨n, rfl, _⟩ := h
    rfl
  · obtain ⟨n, rfl, hn, q⟩ := h
    refine ⟨_, pss_cons (ps_set (i := 1) sc_short_rows.nd rfl (.inl rfl) (pe_lst pa_nil))
      (pss_cons (ps_for PassesOwn.never rfl (pi_range2 rfl M.range (pa_cons pe_int (pa_cons (pe_op op_add (pv 0) pe_int) pa_nil))) (pg_name (i := 2) sc_short_rows.nd rfl (.inl rfl))
          (pss_one (ps_set (i := 1) sc_short_rows.nd rfl (.inl rfl) (pe_op op_cat (pv 1) (Df.pe G hr (pa_cons (pv 2) pa_nil))))))
      (pss_one (ps_ret (pv 1)))), ?_⟩
    refine ⟨Nat.zero_le _, fun l nl => ?_⟩
    refine ⟨.int n, rfl, n, 1, rfl, rfl, 1, (n : Int) + 1, rfl, by omega, ?_⟩
    refine for_range (fun i σ H' => i ≤ n ∧ Same H H' ∧ ∃ l us z2, σ = [some (.int n), some (.ref l), z2] ∧ H l = none ∧ H' l = some (.lst us) ∧ Tps H' us (shortL i))
      ⟨Nat.zero_le _, sm_upd nl, l, [], none, rfl, nl, upd_same, .nil⟩ (fun i σ H1 hi hP => ?_) (fun σ H1 hP => ?_)
    · obtain ⟨_, sm, l, us, z2, rfl, nl, el, tp⟩ := hP
      have hi' : i < n := by omega
      refine ⟨.ref l, rfl, .int (1 + (i : Int)), rfl, i + 1, by rw [show (1 : Int) + (i : Int) = ((i + 1 : Nat) : Int) by omega] <;> rfl, by omega, fun H2 b ys s12 nb eb tb => ?_⟩
      have e1 := tp.len
      have e2 := tb.len
      have b1 := shortL_len i (by omega)
      have b2 := rowsL_len (i + 1) (by omega)
      refine ⟨l, b, us, ys, rfl, rfl, s12 _ _ el, eb, by rw [sizeLine_eq]; omega, fun p np => ?_⟩
      exact ⟨hi', (sm.trans s12).trans (sm_upd np), p, us ++ ys, _, rfl, sm.free (s12.free np), upd_same, Tps.same (sm_upd np) ((tp.same s12).append tb)⟩
    · obtain ⟨_, sm, l, us, z2, rfl, nl, el, tp⟩ := hP
      have e : ((n : Int) + 1 - 1).toNat = n := by omega
      rw [e] at tp
      exact ⟨.ref l, rfl, q H1 l us sm nl el tp⟩
/-! ### need_table -/
inductive TabBad (H : Hp) : V → V → Prop where
  | kind {v : V} {t : String} (k : Kd H v t) (n : (t == "tuple") = false) : TabBad H v .non
  | len {a : Addr} {xs : List V} (e : H a = some (.tup xs)) (n : xs.length ≠ 14) : TabBad H (.ref a) .non
  | item {a : Addr} {xs : List V} {i : Nat} {y : V} {t : String} (e : H a = some (.tup xs)) (n : xs.length = 14) (g : ∀ (j : Nat) z, j < i → xs[j]? = some z → strIn z VOI = true) (h : xs[i]? = some y) (k : Kd H y t)
      (b : strIn y VOI = false) : TabBad H (.ref a) (.int i)
theorem TabBad.same {H H' : Hp} {v u : V} (s : Same H H') (r : TabBad H v u) : TabBad H' v u := by
  cases r with
  | kind k n => exact .kind (k.same s) n
  | len e n => exact .len (s _ _ e) n
  | item e n g h k b => exact .item (s _ _ e) n g h (k.same s) b
def TabOk (H : Hp) (v : V) : Prop := ∃ a xs, v = .ref a ∧ H a = some (.tup xs) ∧ xs.length = 14 ∧ ∀ (j : Nat) z, xs[j]? = some z → strIn z VOI = true
def spTable (c : Cs) : Sp := fun vs H Q E => ∃ v, vs = [v] ∧ ((∃ due, TabBad H v due ∧ ∀ H', Same H H' → IxW c.tab due E H') ∨ (TabOk H v ∧ ∀ H', Same H H' → Q .non H'))
theorem ok_need_table (M : Md P K mg c) (D : DefAt K mg "need_table" s_need_table ["table"]) (G : Df P w K mg base CX0 1 "is_voice" ["value"] spVoice) (G2 : Df P w K mg base CX0 2 "short_rows" ["most"] spShort) :
    Df P w K mg base (L2.CX P w) 3 "need_table" ["table"] (spTable c) := by
  refine D.df fun f fd F => F.okX sc_need_table (fun vs H Q E h => ?_) (fun cdv A outer s H vs Q E hr h => ?_)
  · obtain ⟨v, rfl, _⟩ := h
    rfl
  · obtain ⟨v, rfl, bad⟩ := h
    obtain ⟨fR, TR⟩ := M.cTab
    obtain ⟨tM, gM⟩ := M.mostShort
    have tk := takes_of (X := cxOf (L2.CX P w) P w K mg base N_need_table "need_table" (defScope s_need_table) f cdv A outer s H E) (E₁ := fun e' s'' => L2.CX P w outer H s E e' s'') rfl rfl rfl rfl
    refine ⟨_, pss_cons (ps_set (i := 1) sc_need_table.nd rfl (.inl rfl) (Df.pe G2 hr (pa_cons (pe_glob (v := .int 3) rfl gM ⟨tM, rfl⟩) pa_nil)))
      (pss_cons (ps_if (PW.pt (pw_or (pt_not (pt_val (pe_isi M.isinst M.ttuple boot_tuple (pv 0))))
          (pw_or1 (pt_cmpR op_ne (pe_callB call_len_seq rfl M.len boot_len (pa_cons (pv 0) pa_nil)) (pe_callB call_len_seq rfl M.len boot_len (pa_cons (pv 1) pa_nil)) (nomark _)))))
        (pss_one (ps_raise rfl tk (pmk_ix TR hr (pa_cons pe_non pa_nil) rfl (by decide)))) pss_nil)
      (pss_one (ps_for (passes_of rfl) rfl (pi_range1 rfl M.range (pa_cons (pe_callB call_len_seq rfl M.len boot_len (pa_cons (pv 0) pa_nil)) pa_nil)) (pg_name (i := 2) sc_need_table.nd rfl (.inl rfl))
        (pss_one (ps_if (pt_not (pt_val (Df.pe G (hr.mono (by decide)) (pa_cons (pe_ix ix_tup (pv 0) (pv 2) (fun _ _ => rfl)) pa_nil)))) (pss_one (ps_raise rfl tk (pmk_ix TR hr (pa_cons (pv 2) pa_nil) rfl (by decide)))) pss_nil))))), ?_⟩
    refine ⟨3, rfl, Nat.le_refl _, fun H1 l us s01 nl el tp => ?_⟩
    have hl : us.length = 14 := tp.len
    have lenq : ∀ {a : Addr} {xs : List V}, H1 a = some (.tup xs) → xs.length = 14 → (!decide (V.int (xs.length : Int) = V.int (us.length : Int))) = false := fun {a xs} e n => by
      rw [n, hl] <;> rfl
    -- the loop, up to the turn that fails (or all of it)
    have loop : ∀ {a : Addr} {xs : List V} (i : Nat), H1 a = some (.tup xs) → xs.length = 14 → i ≤ 14 → (∀ (j : Nat) z, j < i → xs[j]? = some z → strIn z VOI = true) →
        (∀ y, xs[i]? = some y → (∃ t, Kd H1 y t) ∧ strIn y VOI = false ∧ IxW c.tab (.int i) E H1) → (i = 14 → Q .non H1) →
        tFor (iRng1 (tCons (tCB (fun xs H Q => ∃ p ys, xs = [.ref p] ∧ (SqL K H p ys ∨ SqT K H p ys) ∧ Q (.int ys.length) H) (tCons (tVar 0) tNil)) tNil)) (gName 2)
          (tIfS (tNot (tB (tCall spVoice [] E0 (tCons (tOp (rIxT K) (tVar 0) (tVar 2)) tNil)))) (fun _ σ H => tMkIx c.tab (tCons (tVar 2) tNil) σ H fun cls d H' => E cls d H') tNext)
          { nx := fun _ H' => Q .non H', rt := Q } [some (.ref a), some (.ref l), none] H1 := fun {a xs} i e n hi g bad' fin => by
      have hT : ∀ {K}, SqT K H1 a xs := .inl (.inl e)
      refine ⟨.ref a, rfl, a, xs, rfl, .inr hT, (xs.length : Int), rfl, by omega, by omega, ?_⟩
      refine for_range (fun j σ H' => j ≤ i ∧ (∃ z, σ = [some (.ref a), some (.ref l), z]) ∧ H' = H1) ⟨Nat.zero_le _, ⟨_, rfl⟩, rfl⟩ (fun j σ H' hj hP => ?_) (fun σ H' hP => ?_)
      · obtain ⟨le, ⟨z0, rfl⟩, rfl⟩ := hP
        have hj' : j < xs.length := hj
        have ej : xs[j]? = some xs[j] := List.getElem?_eq_getElem hj'
        have ea : atI xs (0 + (j : Int)) = some xs[j] := by
          rw [Int.zero_add]
          exact atI_nat ej
        by_cases c1 : j < i
        · have gz := g j _ c1 ej
          refine ⟨.ref a, rfl, .int (0 + (j : Int)), rfl, a, xs, 0 + (j : Int), xs[j], rfl, rfl, hT, ea, xs[j], _, rfl, kd_of_in gz, _, rfl, ?_⟩
          rw [gz]
          exact iteF ⟨c1, ⟨_, rfl⟩, rfl⟩
        · have eji : j = i := by omega
          subst eji
          obtain ⟨⟨t, k⟩, b, q⟩ := bad' _ ej
          refine ⟨.ref a, rfl, .int (0 + (j : Int)), rfl, a, xs, 0 + (j : Int), xs[j], rfl, rfl, hT, ea, xs[j], _, rfl, k, _, rfl, ?_⟩
          rw [b]
          refine iteT ⟨.int (0 + (j : Int)), rfl, _, rfl, ?_⟩
          rw [Int.zero_add]
          exact q
      · obtain ⟨le, _, rfl⟩ := hP
        have z : xs.length ≤ i := le
        exact fin (by omega)
    rcases bad with ⟨due, bad, q⟩ | ⟨⟨a, xs, rfl, e, n, g⟩, q⟩
    · have q1 := q H1 s01
      have bad1 := bad.same s01
      cases bad1 with
      | kind k n =>
        refine ⟨v, rfl, v, _, _, rfl, k, k.kTup, _, rfl, ?_⟩
        rw [n]
        exact iteT (iteT ⟨.non, rfl, q1⟩)
      | @len a xs e n =>
        refine ⟨.ref a, rfl, _, _, _, rfl, .tup e, (Kd.tup e).kTup, _, rfl, iteF ?_⟩
        refine ⟨.ref a, rfl, a, xs, rfl, .inr (.inl (.inl e)), .ref l, rfl, l, us, rfl, .inl (.inl (.inl el)), rfl, _, rfl, ?_⟩
        refine ifT ?_ ⟨.non, rfl, q1⟩
        rw [decide_eq_false]
        · rfl
        · intro z
          have := V.int.inj z
          omega
      | @item a xs i y t e n g h k b =>
        refine ⟨.ref a, rfl, _, _, _, rfl, .tup e, (Kd.tup e).kTup, _, rfl, iteF ?_⟩
        refine ⟨.ref a, rfl, a, xs, rfl, .inr (.inl (.inl e)), .ref l, rfl, l, us, rfl, .inl (.inl (.inl el)), rfl, _, rfl, ?_⟩
        refine ifF (lenq e n) ?_
        have hi : i < xs.length := by
          rcases Nat.lt_or_ge i xs.length with z | z
          · exact z
          · rw [List.getElem?_eq_none z] at h
            cases h
        refine loop i e n (by omega) g (fun y' h' => ?_) (fun z => by omega)
        have ey : y' = y := Option.some.inj (h'.symm.trans h)
        subst ey
        exact ⟨⟨_, k⟩, b, q1⟩
    · have e1 := s01 _ _ e
      refine ⟨.ref a, rfl, _, _, _, rfl, .tup e1, (Kd.tup e1).kTup, _, rfl, iteF ?_⟩
      refine ⟨.ref a, rfl, a, xs, rfl, .inr (.inl (.inl e1)), .ref l, rfl, l, us, rfl, .inl (.inl (.inl el)), rfl, _, rfl, ?_⟩
      refine ifF (lenq e1 n) ?_
      refine loop 14 e1 n (Nat.le_refl _) (fun j z _ h => g j z h) (fun y h => ?_) (fun _ => q H1 s01)
      rw [List.getElem?_eq_none (by omega)] at h
      cases h
/-- keeps(table, promise): the table or the promise bad -/
def spKeeps (c : Cs) : Sp := fun vs H _ E => ∃ v u, vs = [v, u] ∧ ((∃ due, TabBad H v due ∧ ∀ H', Same H H' → IxW c.tab due E H') ∨ (TabOk H v ∧ ∃ t, Kd H u t ∧ strIn u PRO = false ∧ ∀ H', Same H H' → E (.ref c.pro) none H'))
theorem ok_keeps (M : Md P K mg c) (D : DefAt K mg "keeps" s_keeps ["table", "promise"]) (G : Df P w K mg base (L2.CX P w) 3 "need_table" ["table"] (spTable c)) (G2 : Df P w K mg base (L2.CX P w) 1 "need_promise" ["promise"] (spProm c)) :
    Df P w K mg base (L2.CX P w) 4 "keeps" ["table", "promise"] (spKeeps c) := by
  refine D.df fun f fd F => F.okX sc_keeps (fun vs H Q E h => ?_) (fun cdv A outer s H vs Q E hr h => ?_)
  · obtain ⟨v, u, rfl, _⟩ := h
    rfl
  · obtain ⟨v, u, rfl, bad⟩ := h
    have tk := takes_of (X := cxOf (L2.CX P w) P w K mg base N_keeps "keeps" (defScope s_keeps) f cdv A outer s H E) (E₁ := fun e' s'' => L2.CX P w outer H s E e' s'') rfl rfl rfl rfl
    refine ⟨_, pss_cons (ps_expr (Df.peS G hr tk (pa_cons (pv 0) pa_nil))) (pss_cons (ps_expr (Df.peS G2 (hr.mono (by decide)) tk (pa_cons (pv 1) pa_nil))) pss_never), ?_⟩
    refine ⟨v, rfl, v, rfl, ?_⟩
    rcases bad with b | ⟨tok, t, k, b, q⟩
    · exact .inl b
    · exact .inr ⟨tok, fun H' sm => ⟨u, rfl, u, t, rfl, k.same sm, b, q H' sm⟩⟩
theorem ok_write_row (M : Md P K mg c) (D : DefAt K mg "write_row" s_write_row ["row"]) (G : Df P w K mg base (L2.CX P w) 2 "need_row" ["value"] (spRow c)) : Df P w K mg base (L2.CX P w) 3 "write_row" ["row"] (spRow c) := by
  refine D.df fun f fd F => F.okX sc_write_row (fun vs H Q E h => ?_) (fun cdv A outer s H vs Q E hr h => ?_)
  · obtain ⟨v, due, rfl, _⟩ := h
    rfl
  · obtain ⟨v, due, rfl, bad, q⟩ := h
    refine ⟨_, pss_cons (ps_expr (Df.peS G hr (takes_of rfl rfl rfl rfl) (pa_cons (pv 0) pa_nil))) pss_never, ?_⟩
    exact ⟨v, rfl, v, due, rfl, bad, q⟩
def spTabBad (c : Cs) : Sp := fun vs H _ E => ∃ v due, vs = [v] ∧ TabBad H v due ∧ ∀ H', Same H H' → IxW c.tab due E H'
theorem ok_write_table (M : Md P K mg c) (D : DefAt K mg "write_table" s_write_table ["table"]) (G : Df P w K mg base (L2.CX P w) 3 "need_table" ["table"] (spTable c)) : Df P w K mg base (L2.CX P w) 4 "write_table" ["table"] (spTabBad c) := by
  refine D.df fun f fd F => F.okX sc_write_table (fun vs H Q E h => ?_) (fun cdv A outer s H vs Q E hr h => ?_)
  · obtain ⟨v, due, rfl, _⟩ := h
    rfl
  · obtain ⟨v, due, rfl, bad, q⟩ := h
    refine ⟨_, pss_cons (ps_expr (Df.peS G hr (takes_of rfl rfl rfl rfl) (pa_cons (pv 0) pa_nil))) pss_never, ?_⟩
    exact ⟨v, rfl, v, rfl, .inl ⟨due, bad, q⟩⟩
end
end Rv

/-! ## RvZip -/
/-! dict(zip(a list of tuples, a tuple)): the zip keeps the pair that it gave out while the dict is filled. -/
namespace RvZ
open PySem
open Sem (wp)
section
variable {prog : Program} {w : World} {A : Around} {E : Value → Shared → Prop} {s : Shared} {z TI TO i1 i2 T : Addr} {fp1 fp2 : List Addr} {n1 n2 i : Nat} {P1 P2 : Nat → Value → Prop} {St1 St2 : Nat → Heap → Prop} {f : Bool} {oT : Obj}
/-- up to the walk over the two iterators -/
theorem held_open {Q : Fin → Shared → Prop} (hz : IsZipHeld s.heap z TI TO T f) (hT : s.heap.get? T = some oT) (hTI : IsTupOf2 s.heap TI (.ref i1) (.ref i2))
    (h : ∀ g0, IsZipHeld g0 z TI TO T true → Heap.SameBut z s.heap g0 →
      wpAny (model prog w) A (Builtin.SmallTypes.nextOf (.ref i1)) (fun x1 s1 => wpAny (model prog w) A (Builtin.SmallTypes.nextOf (.ref i2)) (fun x2 s2 => Q (.done (.ret (.ref s2.heap.objs.size))) { s2 with heap := s2.heap.push { cls := .type "tuple", data := .seq #[x1, x2] } }) E s1) E { s with heap := g0 }) :
    wpAny (model prog w) A (Builtin.«zip.__next__» ⟨[.ref z], []⟩) Q E s := by
  refine wpAny_bind (m := field (.ref z) 2) (wpAny_field hz rfl (x := .bool false) rfl ?_)
  refine wpAny_bind (m := field (.ref z) 3) (wpAny_field hz rfl (x := .ref TI) rfl (wpAny_bind (wpAny_seqItems hTI rfl ?_)))
  refine wpAny_bind (m := Builtin.SmallTypes.ownedTupleIsFree (.ref z)) (wpAny_tupleHeld_zip hz hT fun g0 hz0 hs0 => ?_)
  simp only [Bool.false_eq_true, if_false]
  refine wpAny_bind ?_
  rw [← Array.forIn_toList]
  simp only [List.forIn_cons, List.forIn_nil]
  refine wpAny_bind (wpAny_bind (wpAny_holding ?_))
  refine wpAny_bind (m := Builtin.SmallTypes.nextOf (.ref i1)) (wpAny_mono (h g0 hz0 hs0) (fun x1 s1 h1 => wpAny_pure (wpAny_pure ?_)) fun _ _ e => e)
  refine wpAny_bind (wpAny_bind (wpAny_holding ?_))
  refine wpAny_bind (m := Builtin.SmallTypes.nextOf (.ref i2)) (wpAny_mono h1 (fun x2 s2 h2 => wpAny_pure (wpAny_pure (wpAny_pure ?_))) fun _ _ e => e)
  exact wpAny_bind (m := newTuple [x1, x2]) (wpAny_newTuple (wpAny_pure h2))
theorem held_item {Q : Option Value → Shared → Prop} (S : ZipSep2 z TI TO i1 i2 fp1 fp2) (D1 : Draws prog w A.in1 i1 fp1 n1 P1 St1) (D2 : Draws prog w A.in1 i2 fp2 n2 P2 St2) (hz : IsZipHeld s.heap z TI TO T f) (hT : s.heap.get? T = some oT)
    (hTI : IsTupOf2 s.heap TI (.ref i1) (.ref i2)) (st1 : St1 i s.heap) (st2 : St2 i s.heap) (hlt1 : i < n1) (hlt2 : i < n2)
    (hQ : ∀ x1 x2 h' tk, P1 i x1 → P2 i x2 → IsZipHeld h' z TI TO T true → St1 (i + 1) h' → St2 (i + 1) h' → IsTupOf2 h' s.heap.objs.size x1 x2 →
      (∀ c o, c ≠ z → c ≠ i1 → c ≠ i2 → s.heap.get? c = some o → h'.get? c = some o) → Q (some (.ref s.heap.objs.size)) { s with heap := h', toks := tk }) :
    wpAny (model prog w) A (pyNext (.ref z)) Q E s := by
  have hTy : s.TypeIs (.ref z) "zip" := ⟨_, hz, rfl⟩
  unfold pyNext
  refine wpAny_bind (wpAny_attempt (wpAny_callSpecial?_slot (name := Str.ofString "__next__") hTy F.slot_zip_next (wpAny_call_entry F.slot_zip_next hTy F.entry_zip_next
    (wpAny_mono (held_open (Q := fun fin s' => ∃ v, fin = .done (.ret v) ∧ Q (some v) s') hz hT hTI fun g0 hz0 hs0 => ?_) (fun fin s' ⟨v, e, q⟩ => ⟨v, e, wpAny_pure q⟩) fun _ _ e => e) (F.args_zip_next_1 _))))
  refine D1.item i _ _ _ hlt1 (D1.over st1 hs0 S.zf1) fun x1 p1 tk1 hx1 sn1 hp1 => ?_
  refine D2.item i _ _ _ hlt2 (D2.over (D2.over st2 hs0 S.zf2) hp1 S.sep1_2) fun x2 p2 tk2 hx2 sn2 hp2 => ?_
  have hp1' : Heap.SameBut i1 g0 p1 := hp1
  have hp2' : Heap.SameBut i2 p1 p2 := hp2
  have hsz : p2.objs.size = s.heap.objs.size := by rw [hp2'.1, hp1'.1, hs0.1]
  have up : ∀ c o, p2.get? c = some o → (p2.push { cls := .type "tuple", data := .seq #[x1, x2] }).get? c = some o := fun c o e => Heap.get?_push_of_some _ e
  have new : IsTupOf2 (p2.push { cls := .type "tuple", data := .seq #[x1, x2] }) p2.objs.size x1 x2 := Heap.get?_push_size _ rfl
  refine ⟨.ref p2.objs.size, rfl, ?_⟩
  rw [hsz] at new ⊢
  exact hQ x1 x2 _ tk2 hx1 hx2 (up _ _ (hp2'.extBut _ _ S.zi2 (hp1'.extBut _ _ S.zi1 hz0))) (D1.frame _ _ _ (D1.over sn1 hp2' S.sep2_1) fun b _ o e => up b o e) (D2.frame _ _ _ sn2 fun b _ o e => up b o e) new
    fun c o cz c1 c2 e => up c o (hp2'.extBut _ _ c2 (hp1'.extBut _ _ c1 (hs0.extBut _ _ cz e)))
theorem held_done {Q : Option Value → Shared → Prop} (S : ZipSep2 z TI TO i1 i2 fp1 fp2) (D1 : Draws prog w A.in1 i1 fp1 n1 P1 St1) (hz : IsZipHeld s.heap z TI TO T f) (hT : s.heap.get? T = some oT)
    (hTI : IsTupOf2 s.heap TI (.ref i1) (.ref i2)) (st1 : St1 n1 s.heap)
    (hQ : ∀ h', (∀ c o, c ≠ z → c ≠ i1 → c ≠ i2 → s.heap.get? c = some o → h'.get? c = some o) → Q none { s with heap := h' }) : wpAny (model prog w) A (pyNext (.ref z)) Q E s := by
  have hTy : s.TypeIs (.ref z) "zip" := ⟨_, hz, rfl⟩
  unfold pyNext
  refine wpAny_bind (wpAny_attempt (wpAny_callSpecial?_slot (name := Str.ofString "__next__") hTy F.slot_zip_next (wpAny_call_entry F.slot_zip_next hTy F.entry_zip_next (held_open hz hT hTI fun g0 hz0 hs0 => ?_) (F.args_zip_next_1 _))))
  refine D1.done _ _ _ (D1.over st1 hs0 S.zf1) fun h' e hk ⟨o, ho, hc⟩ => ?_
  refine wpAny_bind (wpAny_isInstance (T := "StopIteration") (b := true) ⟨o, ho, hc⟩ isSubtype_stop ?_)
  exact wpAny_pure (hQ h' fun c o cz c1 _ x => hk c o c1 (hs0.extBut _ _ cz x))
end
section
variable {prog : Program} {w : World}
/-- zip of a list and a tuple of one length, as dict's argument -/
theorem argLT (z TI TO i1 i2 l1 l2 : Addr) (S : ZipSep2 z TI TO i1 i2 [i1, l1] [i2, l2]) (h1 : l1 ≠ i1) (h2 : l2 ≠ i2) (xs ys : Array Value) (hn : xs.size = ys.size) :
    PairArg prog w "zip" z [z, TI, TO, i1, i2, l1, l2] [z, TO, i1, i2] xs.size (fun i k v => xs[i]? = some k ∧ ys[i]? = some v)
      (fun h => IsZip h z TI TO .none ∧ IsTupOf2 h TI (.ref i1) (.ref i2) ∧ (∃ a b, IsTupOf2 h TO a b) ∧ h.IsListIter i1 l1 0 ∧ h.IsTupleIter i2 l2 0 ∧ h.IsList l1 xs ∧ h.IsTuple l2 ys) where
  type := fun s ok => ⟨_, ok.1, rfl⟩
  notDict := by decide
  keep := fun h h' ⟨hz, hTI, ⟨a, b, hTO⟩, e1, e2, e3, e4⟩ hk => ⟨hk _ _ hz, hk _ _ hTI, ⟨a, b, hk _ _ hTO⟩, e1.at fun o e => hk _ o e, e2.at fun o e => hk _ o e, e3.at fun o e => hk _ o e, e4.at fun o e => hk _ o e⟩
  there := fun h ⟨hz, hTI, ⟨a, c, hTO⟩, ⟨o1, e1, _⟩, ⟨o2, e2, _⟩, ⟨o3, e3, _⟩, ⟨o4, e4, _⟩⟩ b hb => by
    have hb' : b = z ∨ b = TI ∨ b = TO ∨ b = i1 ∨ b = i2 ∨ b = l1 ∨ b = l2 := by simpa using hb
    rcases hb' with q | q | q | q | q | q | q <;> rw [q]
    · exact ⟨_, hz⟩
    · exact ⟨_, hTI⟩
    · exact ⟨_, hTO⟩
    · exact ⟨_, e1⟩
    · exact ⟨_, e2⟩
    · exact ⟨_, e3⟩
    · exact ⟨_, e4⟩
  sub := fun b hb => by
    have hb' : b = z ∨ b = TO ∨ b = i1 ∨ b = i2 := by simpa using hb
    rcases hb' with q | q | q | q <;> rw [q] <;> simp
  noKeys := fun A s Q E hA ok h => getAttrOr_miss_zip ok.1 rfl rfl rfl zip_no_keys (by decide +kernel) hA h
  iter := fun A s d Q E hA ok hd hdf h => by
    obtain ⟨hz, hTI, ⟨a, b, hTO⟩, e1, e2, e3, e4⟩ := ok
    have hdf' : d ≠ z ∧ d ≠ TI ∧ d ≠ TO ∧ d ≠ i1 ∧ d ≠ i2 ∧ d ≠ l1 ∧ d ≠ l2 := by simpa using hdf
    obtain ⟨dz, dTI, dTO, di1, di2, dl1, dl2⟩ := hdf'
    have D1 := Draws.list (prog := prog) (w := w) (A := A.in1) hA i1 l1 h1 xs
    have D2 := Draws.tuple (prog := prog) (w := w) (A := A.in1) hA i2 l2 h2 ys
    refine wpAny_pyIter_zip hz (h z [z, TO, i1, i2] (fun i h => IsTupOf2 h TI (.ref i1) (.ref i2) ∧ (h.IsListIter i1 l1 i ∧ h.IsList l1 xs) ∧ (h.IsTupleIter i2 l2 i ∧ h.IsTuple l2 ys) ∧
      ((IsZip h z TI TO .none ∧ ∃ a b, IsTupOf2 h TO a b) ∨ ∃ T f oT, IsZipHeld h z TI TO T f ∧ h.get? T = some oT ∧ T ≠ z ∧ T ≠ i1 ∧ T ≠ i2 ∧ T ≠ d)) s.heap s.toks ?_
      ⟨hTI, ⟨e1, e3⟩, ⟨e2, e4⟩, .inl ⟨hz, a, b, hTO⟩⟩ (fun _ _ e => e) fun b hb => .inl hb)
    refine { off := fun hm => ?_, frame := fun i h₁ h₂ st hk => ?_, item := fun i s₁ Q₁ E₁ hi st hds hQ => ?_, done := fun s₁ Q₁ E₁ st hQ => ?_ }
    · have hm' : d = z ∨ d = TO ∨ d = i1 ∨ d = i2 := by simpa using hm
      rcases hm' with e | e | e | e
      · exact dz e
      · exact dTO e
      · exact di1 e
      · exact di2 e
    · obtain ⟨g1, ⟨g2, g3⟩, ⟨g4, g5⟩, g6⟩ := st
      refine ⟨hk _ _ (Ne.symm dTI) g1, ⟨g2.at fun o e => hk _ o (Ne.symm di1) e, g3.at fun o e => hk _ o (Ne.symm dl1) e⟩, ⟨g4.at fun o e => hk _ o (Ne.symm di2) e, g5.at fun o e => hk _ o (Ne.symm dl2) e⟩, ?_⟩
      rcases g6 with ⟨q1, a, b, q2⟩ | ⟨T, f, oT, q1, q2, r1, r2, r3, r4⟩
      · exact .inl ⟨hk _ _ (Ne.symm dz) q1, a, b, hk _ _ (Ne.symm dTO) q2⟩
      · exact .inr ⟨T, f, oT, hk _ _ (Ne.symm dz) q1, hk _ _ r4 q2, r1, r2, r3, r4⟩
    · obtain ⟨g1, g2, g3, g6⟩ := st
      have hiy : i < ys.size := hn ▸ hi
      have lt : ∀ {c o}, s₁.heap.get? c = some o → s₁.heap.objs.size ≠ c := fun e => Nat.ne_of_gt (Heap.lt_size e)
      have l1 : s₁.heap.objs.size ≠ i1 := let ⟨_, e, _⟩ := g2.1; lt e
      have l2 : s₁.heap.objs.size ≠ i2 := let ⟨_, e, _⟩ := g3.1; lt e
      rcases g6 with ⟨q1, a, b, q2⟩ | ⟨T, f, oT, q1, q2, r1, r2, r3, r4⟩
      · refine wpAny_pyNext_zipD2_item S D1 D2 q1 g1 q2 g2 g3 hi hiy fun x1 x2 h' tk p1 p2 a1 a2 a3 a4 a5 a6 hk => ?_
        exact hQ s₁.heap.objs.size _ _ h' tk ⟨p1, p2⟩ (.inl ⟨_, a5, rfl, _, rfl⟩) ⟨hk _ _ S.TIz S.TITO S.TIi1 S.TIi2 g1, a3, a4, .inr ⟨s₁.heap.objs.size, false, _, a1, a5, lt q1, l1, l2, Nat.ne_of_gt hds⟩⟩
          fun c o hc e => hk c o (fun x => hc (by simp [x])) (fun x => hc (by simp [x])) (fun x => hc (by simp [x])) (fun x => hc (by simp [x])) e
      · refine held_item S D1 D2 q1 q2 g1 g2 g3 hi hiy fun x1 x2 h' tk p1 p2 a1 a3 a4 a5 hk => ?_
        exact hQ s₁.heap.objs.size _ _ h' tk ⟨p1, p2⟩ (.inl ⟨_, a5, rfl, _, rfl⟩) ⟨hk _ _ S.TIz S.TIi1 S.TIi2 g1, a3, a4, .inr ⟨T, true, oT, a1, hk _ _ r1 r2 r3 q2, r1, r2, r3, r4⟩⟩
          fun c o hc e => hk c o (fun x => hc (by simp [x])) (fun x => hc (by simp [x])) (fun x => hc (by simp [x])) e
    · obtain ⟨g1, g2, g3, g6⟩ := st
      rcases g6 with ⟨q1, a, b, q2⟩ | ⟨T, f, oT, q1, q2, r1, r2, r3, r4⟩
      · exact wpAny_pyNext_zipD2_end S D1 D2 q1 g1 q2 g2 g3 (Nat.le_refl _) (Nat.le_of_eq hn) (.inl rfl) fun h' tk hk => hQ h' tk fun c o hc e => hk c o (fun x => hc (by simp [x])) (fun x => hc (by simp [x])) (fun x => hc (by simp [x])) (fun x => hc (by simp [x])) e
      · exact held_done S D1 q1 q2 g1 g2 fun h' hk => hQ h' s₁.toks fun c o hc e => hk c o (fun x => hc (by simp [x])) (fun x => hc (by simp [x])) (fun x => hc (by simp [x])) e
end
/-! ### the expression -/
open PySem.Spec PyProof.Rows L2
/-- dict(zip(xs, t)), xs a list of tuples of texts and ints, no two alike, t a tuple of that length -/
def tDZ (K : PySem.W.Frag) (ta : TA) : TE := fun σ H Q => ta σ H fun vs H1 => ∃ (a b : Addr) (us ys : List V) (ks : List (List L2.Key)), vs = [.ref a, .ref b] ∧ SqL K H1 a us ∧ SqT K H1 b ys ∧ us.length = ys.length ∧
  Paired (fun u k => ∃ p, u = V.ref p ∧ H1 p = some (.tup (k.map kV))) us ks ∧ ks.Nodup ∧ ∀ D, H1 D = none → Q (.ref D) (upd H1 D (.dT (ks.zip ys)))
theorem nm2 {x y z : Nat} (h1 : x ≠ y) (h2 : x ≠ z) : x ∉ ([y, z] : List Nat) := by
  simp [h1, h2]
theorem sep5 {n a b : Nat} (la : a < n) (lb : b < n) : ZipSep2 (n + 4) (n + 2) (n + 3) n (n + 1) [n, a] [n + 1, b] where
  TIz := (by omega : n + 2 ≠ n + 4)
  TOz := (by omega : n + 3 ≠ n + 4)
  TITO := (by omega : n + 2 ≠ n + 3)
  TIi1 := (by omega : n + 2 ≠ n)
  mem1 := List.mem_cons_self
  zf1 := nm2 (by omega) (by omega)
  Tf1 := nm2 (by omega) (by omega)
  TIi2 := (by omega : n + 2 ≠ n + 1)
  mem2 := List.mem_cons_self
  zf2 := nm2 (by omega) (by omega)
  Tf2 := nm2 (by omega) (by omega)
  sep1_2 := nm2 (by omega) (by omega)
  sep2_1 := nm2 (by omega) (by omega)
theorem keys_raw {H : Hp} : ∀ {us : List V} {ks : List (List L2.Key)} {ys : List V} {is ws : List Value}, Paired (fun u k => ∃ p, u = V.ref p ∧ H p = some (.tup (k.map kV))) us ks → us.length = ys.length → Vals us is → Vals ys ws →
    ∃ xs : List (List L2.Key × Addr × Value), KT H (ks.zip ys) xs ∧ xs.length = is.length ∧ xs.map (·.1) = ks ∧ (∀ x ∈ xs, H x.2.1 = some (.tup (x.1.map kV))) ∧ ∀ (i : Nat) key v, is[i]? = some key → ws[i]? = some v → ∃ k b, xs[i]? = some (k, b, v) ∧ key = .ref b
  | _, _, [], _, _, .nil, _, .nil, .nil => ⟨[], .nil, rfl, rfl, (fun x hx => by simp at hx), fun i key v h => by simp at h⟩
  | u :: us, k :: ks, y :: ys, _, _, .cons ⟨p, e, hp⟩ t, hl, .cons ru rus, .cons ry rys => by
    obtain ⟨xs, h1, h2, h3, h4, h5⟩ := keys_raw (H := H) (ys := ys) t (by simpa using hl) rus rys
    rename_i iu ius wy wys
    subst e
    have eu : iu = Value.ref p := ru
    subst eu
    refine ⟨(k, p, wy) :: xs, .cons ⟨rfl, hp, ry⟩ h1, by rw [List.length_cons, List.length_cons, h2], by rw [List.map_cons, h3], fun x hx => ?_, fun i key v g1 g2 => ?_⟩
    · rcases List.mem_cons.mp hx with q | q
      · rw [q]
        exact hp
      · exact h4 x q
    · cases i with
      | zero =>
        simp at g1 g2
        subst g1
        subst g2
        exact ⟨k, p, rfl, rfl⟩
      | succ i => exact h5 i key v (by simpa using g1) (by simpa using g2)
theorem pe_dz {X : Cx} {e e2 : Expr} {ta : TA} {p q pos pos2 : Pos} (hc : X.calm = true) (hu : X.A.units + 64 < cLine) (hg : Gl X "dict") (hm : X.mg "dict" = none) (hgz : Gl X "zip") (hmz : X.mg "zip" = none) (ha : PA X [e, e2] ta)
    (hs : starEach [e, e2] X.env = (false, eval e X.env) :: starEach [e2] X.env := by rfl) (hpl : (backTo pos (starEach [e2] X.env)).any (·.1) = false := by rfl)
    (hs2 : starEach [.Call (.Name "zip" q) [e, e2] [] pos] X.env = (false, eval (.Call (.Name "zip" q) [e, e2] [] pos) X.env) :: starEach [] X.env := by rfl) (hpl2 : (backTo pos2 (starEach [] X.env)).any (·.1) = false := by rfl) :
    PE X (.Call (.Name "dict" p) [.Call (.Name "zip" q) [e, e2] [] pos] [] pos2) (tDZ X.K ta) := by
  refine ⟨fun pins s σ H Q I h => ?_⟩
  refine wpAny_Call_Name_kw (ld_blt I hg hm PyProof.Rows.boot_dict (PyProof.Rows.callWith_type1 ?_ hs2 hpl2))
  rw [hs2]
  refine Calls.spliced_cons ?_
  refine wpAny_Call_Name_kw (ld_blt I hgz hmz PyProof.Rows.boot_zip (PyProof.Rows.callWith_type1 (thn (ha.run pos pins s σ H _ I h) fun us s1 hh => ?_) hs hpl))
  obtain ⟨vs, H1, I1, r1, a, b, us, ys, ks, ev, hqx, hqy, hl, hk, hnd, q⟩ := hh
  subst ev
  obtain ⟨u1, u2, eu, ra, rb⟩ := vals2 r1
  subst eu
  cases (show u1 = Value.ref a from ra)
  cases (show u2 = Value.ref b from rb)
  obtain ⟨its, rv, p1, hz1⟩ := I1.list hqx
  have hsz1 : its.length ≤ sizeLine := by
    first
      | exact hz1
      | (rw [← rv.length]; exact hz1)
      | simpa using hz1
  obtain ⟨its2, rv2, p2, _⟩ := I1.tuple hqy
  have p1' : s1.heap.IsList a its.toArray := p1.isList
  have p2' : s1.heap.IsTuple b its2.toArray := p2
  have la : a < s1.heap.objs.size := p1.lt
  have lb : b < s1.heap.objs.size := by
    obtain ⟨o2, ho2, _⟩ := id p2
    exact Heap.lt_size ho2
  refine zip_begins2 (begins_list a its.toArray) (begins_tuple b its2.toArray) p1' p2' fun h' hz hTI hTO g1 g2 hsz hkk => ?_
  refine Calls.spliced_nil ?_
  obtain ⟨xs, rel, e1, hks, hxs0, hxs⟩ := keys_raw hk hl rv rv2
  have hlen : its.toArray.size = its2.toArray.size := by
    have := rv.length
    have := rv2.length
    simp
    omega
  have n0 : ∀ c, c < s1.heap.objs.size → ∀ j, c ≠ s1.heap.objs.size + j := fun c hc j e => absurd (Nat.le_add_right s1.heap.objs.size j) (Nat.not_le.mpr (e ▸ hc))
  have S : ZipSep2 (s1.heap.objs.size + 4) (s1.heap.objs.size + 2) (s1.heap.objs.size + 3) s1.heap.objs.size (s1.heap.objs.size + 1) [s1.heap.objs.size, a] [s1.heap.objs.size + 1, b] := sep5 la lb
  have new5 : ∀ c, c ∈ [s1.heap.objs.size + 4, s1.heap.objs.size + 3, s1.heap.objs.size, s1.heap.objs.size + 1] → s1.heap.objs.size ≤ c := fun c hc => by
    have e : c = s1.heap.objs.size + 4 ∨ c = s1.heap.objs.size + 3 ∨ c = s1.heap.objs.size ∨ c = s1.heap.objs.size + 1 := by simpa using hc
    rcases e with e | e | e | e <;> rw [e]
    · exact Nat.le_add_right _ _
    · exact Nat.le_add_right _ _
    · exact Nat.le_refl _
    · exact Nat.le_add_right _ _
  have kp : ∀ (h'' : Heap) {D : Addr}, s1.heap.objs.size ≤ D → (∀ c o, c ≠ D → c ∉ [s1.heap.objs.size + 4, s1.heap.objs.size + 3, s1.heap.objs.size, s1.heap.objs.size + 1] → h'.get? c = some o → h''.get? c = some o) → ∀ c o, s1.heap.get? c = some o → h''.get? c = some o :=
    fun h'' D hD k c o e => k c o (Nat.ne_of_lt (Nat.lt_of_lt_of_le (Heap.lt_size e) hD)) (fun hm => absurd (Heap.lt_size e) (Nat.not_lt.mpr (new5 c hm))) (hkk c o e)
  refine call_dict_pairsH (s := { s1 with heap := h' }) (knd := tupleKind (mixKind X.prog X.w)) (ps := xs) (argLT _ _ _ _ _ a b S (Nat.ne_of_lt la) (n0 b lb 1) its.toArray its2.toArray hlen) (I1.ok.hd hc) ?_ ⟨hz, hTI, ⟨_, _, hTO⟩, ⟨_, g1, rfl, rfl⟩, ⟨_, g2, rfl, rfl⟩, p1'.at fun o e => hkk _ o e, p2'.at fun o e => hkk _ o e⟩ ⟨by rw [e1]; simp, fun i key v ⟨j1, j2⟩ => hxs i key v (by simpa using j1) (by simpa using j2)⟩ ?_ ?_ fun h'' tk hd hkeep => ?_
  · show X.A.units + 1 + 1 < cLine
    exact Nat.lt_of_le_of_lt (Nat.add_le_add_left (by decide : 2 ≤ 64) _) hu
  · intro h2 k2 x hx
    exact key_of (I1.hok.kept (kp h2 (D := h'.objs.size) (by rw [hsz]; exact Nat.le_add_right _ _) k2)) (hxs0 x hx)
  · simpa using hsz1
  · have hle : s1.heap.objs.size ≤ h'.objs.size := by
      rw [hsz]
      exact Nat.le_add_right _ _
    have k2 := kp h'' (D := h'.objs.size) hle fun c o _ hw e => hkeep c o hw e
    have nD := I1.hok.fresh hle
    obtain ⟨o, es, ep, ho, hx, hdt, he, _, hn⟩ := hd
    rw [storedAllH_nil_of_nodup xs (by rw [hks]; exact hnd)] at he
    have new : ObjOk X.prog X.w (upd H1 h'.objs.size (.dT (ks.zip ys))) h'' h'.objs.size (.dT (ks.zip ys)) := by
      refine ⟨?_, ?_, xs, rel.keeps fun b zs e => by rw [upd_ne (ne_of_none e nD)]; exact e, o, es, ep, ho, hx, hdt, he, by rw [hks]; exact hnd⟩
      · rw [List.length_zip]
        refine Nat.le_trans (Nat.min_le_right _ _) ?_
        rw [← hl, rv.length]
        exact hsz1
      · have := Nat.lt_of_lt_of_le I1.big hle
        simpa using Nat.ne_of_gt this
    exact ⟨.ref h'.objs.size, _, I1.laid (t' := tk) k2 hle new, rfl, q _ nD⟩
end RvZ

/-! ## RvParts -/
/-! is_parts at the one small map that law hands in; parts_answer with a bad row. -/
namespace Rv
open PySem PySem.Spec PyProof.Rows L2
def vo (b : Bool) : Str := if b then "allow" else "deny"
abbrev SMALL : List V := [.str "allow", .str "deny", .str "allow", .str "deny", .str "deny", .str "deny"]
abbrev keysS : List (List L2.Key) := [[.inr "allow"], [.inr "deny"], [.inr "allow", .inr "allow"], [.inr "allow", .inr "deny"], [.inr "deny", .inr "allow"], [.inr "deny", .inr "deny"]]
abbrev TOLD : List (List L2.Key × V) := keysS.zip SMALL
theorem told1 : ∀ x : Bool, valV TOLD [.inr (vo x)] = some (.str (vo x)) := by decide +kernel
theorem told2 : ∀ x y : Bool, valV TOLD [.inr (vo x), .inr (vo y)] = some (.str (vo (x && y))) := by decide +kernel
theorem keys_nd : keysS.Nodup := by decide +kernel
theorem short2 : shortL 2 = keysS.map (·.map kV) := rfl
theorem tps_keys {H : Hp} : ∀ {us : List V} {ks : List (List L2.Key)}, Tps H us (ks.map (·.map kV)) → Paired (fun u k => ∃ p, u = V.ref p ∧ H p = some (.tup (k.map kV))) us ks
  | _, [], .nil => .nil
  | _, _ :: _, .cons r t => .cons r (tps_keys t)
/-- an expression that gives v, whatever was laid meanwhile -/
def Evs (te : TE) (σ : L2.St) (H : Hp) (v : V) : Prop := ∀ H', Same H H' → ∀ Q : VK, (∀ H2, Same H' H2 → Q v H2) → te σ H' Q
theorem ev_var {i : Nat} {σ : L2.St} {H : Hp} {v : V} (h : σ[i]? = some (some v)) : Evs (tVar i) σ H v := fun H' _ Q q => ⟨v, h, q H' (Same.refl _)⟩
theorem ev_get1 {t1 : TE} {σ : L2.St} {H : Hp} {D : Addr} {x : Bool} (hD : H D = some (.dT TOLD)) (h0 : σ[0]? = some (some (.ref D))) (h1 : Evs t1 σ H (.str (vo x))) : Evs (tDGet (tVar 0) (tTup (tCons t1 tNil))) σ H (.str (vo x)) := fun H' s' Q q => by
  refine ⟨.ref D, h0, h1 H' s' _ fun H2 s2 => ⟨show 1 ≤ sizeLine by decide, fun p np => ?_⟩⟩
  have s3 : Same H2 (upd H2 p (.tup [.str (vo x)])) := sm_upd np
  refine ⟨D, _, rfl, ?_, q _ (s2.trans s3)⟩
  rw [← told1 x]
  exact DGet.t (s3 _ _ (s2 _ _ (s' _ _ hD))) upd_same
theorem ev_get2 {t1 t2 : TE} {σ : L2.St} {H : Hp} {D : Addr} {x y : Bool} (hD : H D = some (.dT TOLD)) (h0 : σ[0]? = some (some (.ref D))) (h1 : Evs t1 σ H (.str (vo x))) (h2 : Evs t2 σ H (.str (vo y))) :
    Evs (tDGet (tVar 0) (tTup (tCons t1 (tCons t2 tNil)))) σ H (.str (vo (x && y))) := fun H' s' Q q => by
  refine ⟨.ref D, h0, h1 H' s' _ fun H2 s2 => h2 H2 (s'.trans s2) _ fun H3 s3 => ⟨show 2 ≤ sizeLine by decide, fun p np => ?_⟩⟩
  have s4 : Same H3 (upd H3 p (.tup [.str (vo x), .str (vo y)])) := sm_upd np
  refine ⟨D, _, rfl, ?_, q _ ((s2.trans s3).trans s4)⟩
  rw [← told2 x y]
  exact DGet.t (s4 _ _ (s3 _ _ (s2 _ _ (s' _ _ hD)))) upd_same
/-- two that are alike -/
theorem ev_ne {t1 t2 : TE} {σ : L2.St} {H : Hp} {v : Str} (h1 : Evs t1 σ H (.str v)) (h2 : Evs t2 σ H (.str v)) {Q : Bool → Hp → Prop} (q : ∀ H', Same H H' → Q false H') : tTest (tOp rNe t1 t2) σ H Q :=
  h1 H (Same.refl _) _ fun H1 s1 => h2 H1 s1 _ fun H2 s2 => ⟨rfl, _, rfl, by rw [decide_eq_true rfl]; exact q H2 (s1.trans s2)⟩
section
variable {P : Program} {w : World} {K : PySem.W.Frag} {mg : Str → Option Value} {base : Heap} {c : Cs}
def spTold : Sp := fun vs H Q _ => ∃ t, vs = [.ref t] ∧ H t = some (.tup SMALL) ∧ ∀ H' D, Same H H' → H' D = some (.dT TOLD) → Q (.ref D) H'
theorem ok_told_by (M : Md P K mg c) (D : DefAt K mg "told_by" s_told_by ["small"]) (G : Df P w K mg base CX0 2 "short_rows" ["most"] spShort) : Df P w K mg base CX0 3 "told_by" ["small"] spTold := by
  refine D.df fun f fd F => F.ok sc_told_by (fun vs H Q E h => ?_) (fun cdv A outer s H vs Q E hr h => ?_)
  · obtain ⟨t, rfl, _⟩ := h
    rfl
  · obtain ⟨t, rfl, ht, q⟩ := h
    refine ⟨_, pss_one (ps_ret (RvZ.pe_dz rfl hr.units rfl M.tdict rfl M.zip (pa_cons (Df.pe G hr (pa_cons pe_int pa_nil)) (pa_cons (pv 0) pa_nil)))), ?_⟩
    refine ⟨2, rfl, by decide, fun H1 l us s1 nl el tp => ⟨.ref t, rfl, l, t, us, SMALL, keysS, rfl, .inl (.inl el), .inl (.inl (s1 _ _ ht)), tp.len, tps_keys tp, keys_nd, fun D nD => ?_⟩⟩
    exact q _ D (s1.trans (sm_upd nD)) upd_same
theorem row2 : ∀ (i : Nat) (r : List V), (rowsL 2)[i]? = some r → ∃ x y : Bool, r = [.str (vo x), .str (vo y)] := fun i r h => by
  match i, h with
  | 0, h =>
    cases h
    exact ⟨true, true, rfl⟩
  | 1, h =>
    cases h
    exact ⟨true, false, rfl⟩
  | 2, h =>
    cases h
    exact ⟨false, true, rfl⟩
  | 3, h =>
    cases h
    exact ⟨false, false, rfl⟩
  | i + 4, h => exact absurd h (by rw [List.getElem?_eq_none (show (rowsL 2).length ≤ i + 4 from Nat.le_add_left 4 i)]; exact fun z => nomatch z)
def spGoes : Sp := fun vs H Q _ => ∃ D, vs = [.ref D] ∧ H D = some (.dT TOLD) ∧ ∀ H', Same H H' → Q (.bl true) H'
theorem ok_goes (M : Md P K mg c) (D : DefAt K mg "goes" s_goes ["told"]) (G : Df P w K mg base CX0 1 "rows_of" ["length"] spRows) : Df P w K mg base CX0 2 "goes" ["told"] spGoes := by
  refine D.df fun f fd F => F.ok sc_goes (fun vs H Q E h => ?_) (fun cdv A outer s H vs Q E hr h => ?_)
  · obtain ⟨D, rfl, _⟩ := h
    rfl
  · obtain ⟨D, rfl, hD, q⟩ := h
    obtain ⟨aV, kV⟩ := M.voices
    have hu := hu_of hr
    refine ⟨_, pss_cons (ps_for PassesOwn.never rfl (pi_list (Df.pe G hr (pa_cons pe_int pa_nil))) (pg_tup rfl (pgs_cons (pg_name (i := 1) sc_goes.nd rfl (.inl rfl)) (pgs_cons (pg_name (i := 2) sc_goes.nd rfl (.inl rfl)) pgs_nil)))
          (pss_cons (ps_if (pt_cmpR op_ne (pe_dget hu (pv 0) (pe_tup (pa_cons (pv 1) (pa_cons (pv 2) pa_nil))) (fun _ _ => rfl))
              (pe_dget hu (pv 0) (pe_tup (pa_cons (pe_dget hu (pv 0) (pe_tup (pa_cons (pv 1) pa_nil)) (fun _ _ => rfl)) (pa_cons (pe_dget hu (pv 0) (pe_tup (pa_cons (pv 2) pa_nil)) (fun _ _ => rfl)) pa_nil))) (fun _ _ => rfl)) (nomark _)) (pss_one (ps_ret pe_bl)) pss_nil)
          (pss_one (ps_for PassesOwn.never rfl (pi_tup (pe_glob (v := .ref aV) rfl kV.g rfl)) (pg_name (i := 3) sc_goes.nd rfl (.inl rfl))
            (pss_cons (ps_set (i := 4) sc_goes.nd rfl (.inl rfl) (pe_dget hu (pv 0) (pe_tup (pa_cons (pe_dget hu (pv 0) (pe_tup (pa_cons (pv 1) (pa_cons (pv 2) pa_nil))) (fun _ _ => rfl)) (pa_cons (pe_dget hu (pv 0) (pe_tup (pa_cons (pv 3) pa_nil)) (fun _ _ => rfl)) pa_nil))) (fun _ _ => rfl)))
            (pss_one (ps_if (pt_cmpR op_ne (pv 4) (pe_dget hu (pv 0) (pe_tup (pa_cons (pe_dget hu (pv 0) (pe_tup (pa_cons (pv 1) pa_nil)) (fun _ _ => rfl)) (pa_cons (pe_dget hu (pv 0) (pe_tup (pa_cons (pv 2) (pa_cons (pv 3) pa_nil))) (fun _ _ => rfl)) pa_nil))) (fun _ _ => rfl)) (nomark _)) (pss_one (ps_ret pe_bl)) pss_nil)))))))
      (pss_one (ps_ret pe_bl)), ?_⟩
    refine ⟨2, rfl, by decide, fun H1 l us s1 nl el tp => ⟨l, rfl, ⟨us, .inl (.inl el)⟩, ?_⟩⟩
    refine for_list (xs := us) (fun i σ H' => Same H1 H' ∧ ∃ y1 y2 y3 y4, σ = [some (.ref D), y1, y2, y3, y4]) ⟨Same.refl _, _, _, _, _, rfl⟩ (fun i σ H' _ hP => .inl (.inl (hP.1 _ _ el))) (fun i x σ H2 hx hP => ?_) (fun σ H' hP => q H' (s1.trans hP.1))
    obtain ⟨s2, y1, y2, y3, y4, rfl⟩ := hP
    obtain ⟨a, r, rfl, hr2, ha⟩ := tp.get hx
    obtain ⟨x, y, rfl⟩ := row2 i r hr2
    refine ⟨a, _, rfl, .inl (.inl (s2 _ _ ha)), rfl, _, _, rfl, _, _, rfl, rfl, ?_⟩
    have hD2 : H2 D = some (.dT TOLD) := s2 _ _ (s1 _ _ hD)
    refine ev_ne (v := vo (x && y)) (ev_get2 (x := x) (y := y) hD2 rfl (ev_var rfl) (ev_var rfl)) (ev_get2 (x := x) (y := y) hD2 rfl (ev_get1 hD2 rfl (ev_var rfl)) (ev_get1 hD2 rfl (ev_var rfl))) fun H3 s3 => iteF ?_
    refine ⟨aV, rfl, ⟨VOI, kV.s _⟩, ?_⟩
    refine for_tup (xs := VOI) (fun j σ H' => Same H2 H' ∧ ∃ y3 y4, σ = [some (.ref D), some (.str (vo x)), some (.str (vo y)), y3, y4]) ⟨s3, _, _, rfl⟩ (fun j σ H' _ hP => kV.s _) (fun j z σ H4 hz hP => ?_) (fun σ H' hP => ?_)
    · obtain ⟨s4, y3, y4, rfl⟩ := hP
      have hD4 : H4 D = some (.dT TOLD) := s4 _ _ hD2
      obtain ⟨zb, rfl⟩ : ∃ zb : Bool, z = .str (vo zb) := by
        match j, hz with
        | 0, h =>
          cases h
          exact ⟨true, rfl⟩
        | 1, h =>
          cases h
          exact ⟨false, rfl⟩
      refine ev_get2 (x := x && y) (y := zb) hD4 rfl (ev_get2 hD4 rfl (ev_var rfl) (ev_var rfl)) (ev_get1 hD4 rfl (ev_var rfl)) H4 (Same.refl _) _ fun H5 s5 => ?_
      have hD5 := s5 _ _ hD4
      refine ev_ne (v := vo (x && y && zb)) (ev_var rfl) ?_ fun H6 s6 => iteF ⟨s4.trans (s5.trans s6), _, _, rfl⟩
      rw [Bool.and_assoc]
      exact ev_get2 hD5 rfl (ev_get1 hD5 rfl (ev_var rfl)) (ev_get2 hD5 rfl (ev_var rfl) (ev_var rfl))
    · obtain ⟨s4, y3, y4, rfl⟩ := hP
      exact ⟨s2.trans s4, _, _, _, _, rfl⟩
def spParts : Sp := fun vs H Q _ => ∃ t, vs = [.ref t] ∧ H t = some (.tup SMALL) ∧ ∀ H', Same H H' → Q (.bl true) H'
theorem ok_is_parts (M : Md P K mg c) (D : DefAt K mg "is_parts" s_is_parts ["small"]) (G : Df P w K mg base CX0 1 "is_voice" ["value"] spVoice) (G2 : Df P w K mg base CX0 2 "goes" ["told"] spGoes) (G3 : Df P w K mg base CX0 3 "told_by" ["small"] spTold) :
    Df P w K mg base CX0 4 "is_parts" ["small"] spParts := by
  refine D.df fun f fd F => F.ok sc_is_parts (fun vs H Q E h => ?_) (fun cdv A outer s H vs Q E hr h => ?_)
  · obtain ⟨t, rfl, _⟩ := h
    rfl
  · obtain ⟨t, rfl, ht, q⟩ := h
    obtain ⟨tM, gM⟩ := M.mostSmall
    refine ⟨_, pss_cons (ps_if (PW.pt (pw_or (pt_not (pt_val (pe_isi M.isinst M.ttuple boot_tuple (pv 0)))) (pw_or (pt_cmpR op_ne (pe_callB call_len_seq rfl M.len boot_len (pa_cons (pv 0) pa_nil)) (pe_glob (v := .int 6) rfl gM ⟨tM, rfl⟩) (nomark _))
          (pw_or1 (pt_not (pt_val (pe_callB (cr_all rfl) rfl M.all boot_all (pa_cons
            (pe_lc (own := [("one", 1)]) (te := tCall spVoice [] E0 (tCons (tVar 1) tNil)) rfl sc_is_parts.nd (pi_tup (pv 0)) (blkOk_by (N := N_is_parts) (sc := defScope s_is_parts) (by decide +kernel)) (fun _ _ _ _ _ => pg_name (i := 1) sc_is_parts.nd rfl (.inl rfl) (.inr rfl)) (fun _ _ _ _ _ => pts_nil)
              (fun _ _ _ _ _ => Df.pe G (hr.mono (by decide)) (pa_cons (pv 1) pa_nil))) pa_nil)))))))) (pss_one (ps_ret pe_bl)) pss_nil)
      (pss_one (ps_ret (Df.pe G2 (hr.mono (by decide)) (pa_cons (Df.pe G3 hr (pa_cons (pv 0) pa_nil)) pa_nil)))), ?_⟩
    have hT : ∀ {K}, SqT K H t SMALL := .inl (.inl ht)
    refine ⟨.ref t, rfl, _, _, _, rfl, .tup ht, (Kd.tup ht).kTup, _, rfl, iteF ?_⟩
    refine ⟨.ref t, rfl, t, SMALL, rfl, .inr hT, rfl, _, rfl, ifF (by decide) ?_⟩
    refine ⟨.ref t, rfl, t, rfl, ⟨SMALL, hT⟩, fun D nD => lcT_map (fun x => V.bl (strIn x VOI)) nD hT (by decide) (fun i x H2 Q2 ex sm k2 => ⟨rfl, x, rfl, x, "str", rfl, ?_, k2 H2 (Same.refl _)⟩) fun H' sm eD => ?_⟩
    · match i, ex with
      | 0, e => cases e; exact .str _
      | 1, e => cases e; exact .str _
      | 2, e => cases e; exact .str _
      | 3, e => cases e; exact .str _
      | 4, e => cases e; exact .str _
      | 5, e => cases e; exact .str _
    · rw [all_map] at eD
      refine ⟨D, _, rfl, .inl (.inl eD), _, rfl, ?_⟩
      rw [show ((SMALL.map fun x => strIn x VOI).all id) = true by decide +kernel]
      refine iteF ⟨.ref t, rfl, t, rfl, sm _ _ ht, fun H2 D2 s2 e2 => ⟨D2, rfl, e2, fun H3 s3 => ?_⟩⟩
      exact q H3 ((sm.trans s2).trans s3)
def spPA (c : Cs) : Sp := fun vs H _ E => ∃ t u due, vs = [.ref t, u] ∧ H t = some (.tup SMALL) ∧ RowBad H u due ∧ ∀ H', Same H H' → IxW c.row due E H'
theorem ok_parts_answer (M : Md P K mg c) (D : DefAt K mg "parts_answer" s_parts_answer ["small", "row"]) (G : Df P w K mg base CX0 4 "is_parts" ["small"] spParts) (G2 : Df P w K mg base (L2.CX P w) 2 "need_row" ["value"] (spRow c)) :
    Df P w K mg base (L2.CX P w) 5 "parts_answer" ["small", "row"] (spPA c) := by
  refine D.df fun f fd F => F.okX sc_parts_answer (fun vs H Q E h => ?_) (fun cdv A outer s H vs Q E hr h => ?_)
  · obtain ⟨t, u, due, rfl, _⟩ := h
    rfl
  · obtain ⟨t, u, due, rfl, ht, bad, q⟩ := h
    have tk := takes_of (X := cxOf (L2.CX P w) P w K mg base N_parts_answer "parts_answer" (defScope s_parts_answer) f cdv A outer s H E) (E₁ := fun e' s'' => L2.CX P w outer H s E e' s'') rfl rfl rfl rfl
    refine ⟨_, pss_cons (ps_if (pt_not (pt_val (Df.pe G hr (pa_cons (pv 0) pa_nil)))) pss_never pss_nil) (pss_cons (ps_expr (Df.peS G2 (hr.mono (by decide)) tk (pa_cons (pv 1) pa_nil))) pss_never), ?_⟩
    refine ⟨.ref t, rfl, t, rfl, ht, fun H1 s1 => ⟨_, rfl, iteF ⟨u, rfl, u, due, rfl, bad.same s1, q H1 s1⟩⟩⟩
end
end Rv

/-! ## RvLawH1 -/
/-! law's helpers: what it takes from the script. -/
namespace Rv
open PySem PySem.Spec PyProof.Rows L2
/-! ### the row of the script's place -/
def SB (r : Addr) (H H' : Hp) : Prop := ∀ b o, b ≠ r → H b = some o → H' b = some o
theorem SB.refl (r : Addr) (H : Hp) : SB r H H := fun _ _ _ h => h
theorem SB.trans {r : Addr} {H H1 H2 : Hp} (a : SB r H H1) (b : SB r H1 H2) : SB r H H2 := fun c o n h => b c o n (a c o n h)
theorem SB.same {r : Addr} {H H1 : Hp} (a : Same H H1) : SB r H H1 := fun c o _ h => a c o h
theorem SB.upd {r : Addr} {H : Hp} {o : HO} : SB r H (L2.upd H r o) := fun c u n h => by
  rw [upd_ne n]
  exact h
def LRow (K : PySem.W.Frag) (a : Addr) (ns : List Int) (r : Addr) (H : Hp) : Prop :=
  ∃ p s x : Int, 0 ≤ p ∧ H r = some (.lst [.ref a, .int p, .int s, .int x]) ∧ SqL K H a (ns.map V.int)
theorem sql_row {K : PySem.W.Frag} {H : Hp} {r a : Addr} {ns : List Int} {rest : List V} {o : HO} (h : H r = some (.lst (.ref a :: rest))) (s : SqL K H a (ns.map V.int)) : SqL K (upd H r o) a (ns.map V.int) := by
  rcases s with (s | ⟨q, s⟩) | s
  · have n : a ≠ r := fun e => by
      rw [e, h] at s
      cases ns with
      | nil => cases s
      | cons n ns => cases s
    exact .inl (.inl (by rw [upd_ne n]; exact s))
  · have n : a ≠ r := fun e => by
      rw [e, h] at s
      cases s
    exact .inl (.inr ⟨q, by rw [upd_ne n]; exact s⟩)
  · exact .inr s
theorem LRow.same {K : PySem.W.Frag} {a r : Addr} {ns : List Int} {H H' : Hp} (s : Same H H') (h : LRow K a ns r H) : LRow K a ns r H' := by
  obtain ⟨p, q, x, h0, h1, h2⟩ := h
  exact ⟨p, q, x, h0, s _ _ h1, s.seq h2⟩
theorem LRow.free {K : PySem.W.Frag} {a r p : Addr} {ns : List Int} {H H' : Hp} (l : LRow K a ns r H') (s : SB r H H') (n : H' p = none) : H p = none := by
  obtain ⟨_, _, _, _, h1, _⟩ := l
  have hr : p ≠ r := fun e => by
    rw [e, h1] at n
    cases n
  cases e : H p with
  | none => rfl
  | some o =>
    rw [s _ _ hr e] at n
    cases n
/-- a new object beside it -/
theorem LRow.ne {K : PySem.W.Frag} {a r p : Addr} {ns : List Int} {H : Hp} (l : LRow K a ns r H) (n : H p = none) : p ≠ r := fun e => by
  obtain ⟨_, _, _, _, h1, _⟩ := l
  rw [e, h1] at n
  cases n
theorem pix {X : Cx} {i : Int} {j : Nat} {pos : Pos} : PlainIx (.Constant (.int i) j pos) := fun _ _ => rfl
section
variable {P : Program} {w : World} {K : PySem.W.Frag} {mg : Str → Option Value} {base : Heap} {c : Cs}
def spTaken (K : PySem.W.Frag) : Sp := fun vs H Q _ => ∃ (r a : Addr) (m : Int) (ns : List Int), vs = [.ref r, .int m] ∧ 0 < m ∧ m < 1073741824 ∧ ns.length ≤ 1000 ∧ LRow K a ns r H ∧ ∀ (k : Nat) H', (k : Int) < m → SB r H H' → LRow K a ns r H' → Q (.int k) H'
theorem fin_mod {m x : Int} (h : 0 < m) : ∃ k : Nat, (k : Int) < m ∧ x % m = k :=
  ⟨(x % m).toNat, by rw [Int.toNat_of_nonneg (Int.emod_nonneg _ (by omega))]; exact Int.emod_lt_of_pos _ h, (Int.toNat_of_nonneg (Int.emod_nonneg _ (by omega))).symm⟩
theorem ok_l_taken (M : Md P K mg c) (D : DefAt K mg "_law_taken" s_l_taken ["_law_row_here", "_law_many"]) : Df P w K mg base CX0 1 "_law_taken" ["_law_row_here", "_law_many"] (spTaken K) := by
  refine D.df fun f fd F => F.ok sc_l_taken (fun vs H Q E h => ?_) (fun cdv A outer s H vs Q E hr h => ?_)
  · obtain ⟨r, a, m, ns, rfl, _⟩ := h
    rfl
  · obtain ⟨r, a, m, ns, rfl, m0, m1, hns, ⟨p, sd, x, p0, eR, hA⟩, q⟩ := h
    have cd : CDivN 0 m := ⟨by omega, by omega⟩
    refine ⟨_, pss_cons (ps_if (pt_cmpR op_gt (pe_ix ix_list (pv 0) pe_int (fun _ _ => rfl)) pe_int (nomark _))
        (pss_cons (ps_set (i := 2) sc_l_taken.nd rfl (.inl rfl) (pe_op op_mod (pe_callTy call_int1 rfl M.tint boot_int (pa_cons (pe_ix ix_list (pv 0) pe_int (fun _ _ => rfl)) pa_nil)) (pv 1)))
        (pss_cons (ps_asg (pe_op op_fdivN (pe_ix ix_list (pv 0) pe_int (fun _ _ => rfl)) (pv 1)) (pg_sub (pv 0) pe_int set_list))
        (pss_one (ps_ret (pv 2))))) pss_nil)
      (pss_cons (ps_asg (pe_op op_add (pe_ix ix_list (pv 0) pe_int (fun _ _ => rfl)) pe_int) (pg_sub (pv 0) pe_int set_list))
      (pss_cons (ps_if (pt_cmpR op_gt (pe_ix ix_list (pv 0) pe_int (fun _ _ => rfl)) (pe_callB call_len_seq rfl M.len boot_len (pa_cons (pe_ix ix_list (pv 0) pe_int (fun _ _ => rfl)) pa_nil)) (nomark _))
        (pss_cons (ps_asg (pe_op op_mod (pe_callTy call_int1 rfl M.tint boot_int (pa_cons (pe_op op_add (pe_op op_mul (pe_ix ix_list (pv 0) pe_int (fun _ _ => rfl)) pe_int) pe_int) pa_nil)) pe_int) (pg_sub (pv 0) pe_int set_list))
        (pss_one (ps_ret (pe_op op_mod (pe_callTy call_int1 rfl M.tint boot_int (pa_cons (pe_op op_fdivN (pe_ix ix_list (pv 0) pe_int (fun _ _ => rfl)) pe_int) pa_nil)) (pv 1))))) pss_nil)
      (pss_cons (ps_set (i := 3) sc_l_taken.nd rfl (.inl rfl) (pe_ix ix_list (pe_ix ix_list (pv 0) pe_int (fun _ _ => rfl)) (pe_op op_sub (pe_ix ix_list (pv 0) pe_int (fun _ _ => rfl)) pe_int) (fun _ _ => rfl)))
      (pss_cons (ps_asg (pe_op op_mod (pe_callTy call_int1 rfl M.tint boot_int (pa_cons (pe_op op_add (pe_op op_add (pe_op op_mul (pe_ix ix_list (pv 0) pe_int (fun _ _ => rfl)) pe_int) (pv 3)) pe_int) pa_nil)) pe_int) (pg_sub (pv 0) pe_int set_list))
      (pss_cons (ps_if (pt_cmpR op_ge (pv 3) (pe_op op_pow pe_int pe_int) (nomark _)) (pss_one (ps_asg (pe_op op_fdivN (pv 3) (pv 1)) (pg_sub (pv 0) pe_int set_list))) pss_nil)
      (pss_one (ps_ret (pe_op op_mod (pe_callTy call_int1 rfl M.tint boot_int (pa_cons (pv 3) pa_nil)) (pv 1))))))))), ?_⟩
    have at3 : ∀ {p s x : Int}, atI [V.ref a, .int p, .int s, .int x] 3 = some (.int x) := rfl
    have hR : SqL K H r [.ref a, .int p, .int sd, .int x] := .inl (.inl eR)
    have qm : ∀ (y : Int) H', SB r H H' → LRow K a ns r H' → Q (.int (y % m)) H' := fun y H' sb l => by
      obtain ⟨k, hk, ek⟩ := fin_mod (x := y) m0
      rw [ek]
      exact q k _ hk sb l
    -- if row[3] > 0
    refine ⟨.ref r, rfl, r, _, 3, _, rfl, rfl, hR, rfl, x, 0, rfl, rfl, _, rfl, ite2 (fun _ => ?_) (fun _ => ?_)⟩
    · obtain ⟨k, hk, ek⟩ := fin_mod (x := x) m0
      refine ⟨.ref r, rfl, r, _, 3, _, rfl, rfl, hR, rfl, .inl ⟨x, rfl, .int m, rfl, x, m, rfl, rfl, m0, ?_⟩⟩
      refine ⟨.ref r, rfl, r, _, 3, _, rfl, rfl, hR, rfl, .int m, rfl, x, m, rfl, rfl, cd, .ref r, rfl, r, _, 3, 3, rfl, rfl, eR, rfl, ?_⟩
      refine ⟨_, rfl, ?_⟩
      exact qm _ _ SB.upd ⟨p, sd, _, p0, upd_same, sql_row eR hA⟩
    · -- row[1] = row[1] + 1
      refine ⟨.ref r, rfl, r, _, 1, _, rfl, rfl, hR, rfl, p, 1, rfl, rfl, .ref r, rfl, r, _, 1, 1, rfl, rfl, eR, rfl, ?_⟩
      generalize hH1 : upd H r (.lst ([V.ref a, .int p, .int sd, .int x].set 1 (.int (p + 1)))) = H1
      have e1 : H1 r = some (.lst [.ref a, .int (p + 1), .int sd, .int x]) := by rw [← hH1]; exact upd_same
      have sb1 : SB r H H1 := by rw [← hH1]; exact SB.upd
      have hA1 : SqL K H1 a (ns.map V.int) := by rw [← hH1]; exact sql_row eR hA
      have hR1 : SqL K H1 r [.ref a, .int (p + 1), .int sd, .int x] := .inl (.inl e1)
      refine ⟨.ref r, rfl, r, _, 1, _, rfl, rfl, hR1, rfl, .ref r, rfl, r, _, 0, _, rfl, rfl, hR1, rfl, a, _, rfl, .inl hA1, p + 1, _, rfl, rfl, _, rfl, ite2 (fun _ => ?_) (fun ch => ?_)⟩
      · refine ⟨.ref r, rfl, r, _, 2, _, rfl, rfl, hR1, rfl, sd, 48271, rfl, rfl, .inr (by decide), _, 11, rfl, rfl, .inl ⟨_, rfl, _, 2147483647, rfl, rfl, (show (0 : Int) < 2147483647 by decide), .ref r, rfl, r, _, 2, 2, rfl, rfl, e1, rfl, ?_⟩⟩
        generalize hH2 : upd H1 r (.lst ([V.ref a, .int (p + 1), .int sd, .int x].set 2 (.int ((sd * 48271 + 11) % 2147483647)))) = H2
        have e2 : H2 r = some (.lst [.ref a, .int (p + 1), .int ((sd * 48271 + 11) % 2147483647), .int x]) := by rw [← hH2]; exact upd_same
        have sb2 : SB r H H2 := by rw [← hH2]; exact sb1.trans SB.upd
        have hA2 : SqL K H2 a (ns.map V.int) := by rw [← hH2]; exact sql_row e1 hA1
        refine ⟨.ref r, rfl, r, _, 2, _, rfl, rfl, .inl (.inl e2), rfl, _, 7, rfl, rfl, (show CDivN 0 7 from ⟨by decide, by decide⟩), .inl ⟨_, rfl, .int m, rfl, _, m, rfl, rfl, m0, ?_⟩⟩
        exact qm _ _ sb2 ⟨_, _, _, by omega, e2, hA2⟩
      · -- cell
        have hlt : p.toNat < ns.length := by
          have h1 : ¬ (((ns.map V.int).length : Int) < p + 1) := fun z => ch (decide_eq_true z)
          rw [List.length_map] at h1
          omega
        have ec : atI (ns.map V.int) (p + 1 - 1) = some (.int ns[p.toNat]) := by
          rw [show p + 1 - 1 = ((p.toNat : Nat) : Int) by omega]
          refine atI_nat ?_
          rw [List.getElem?_map, List.getElem?_eq_getElem hlt]
          rfl
        refine ⟨.ref r, rfl, r, _, 0, _, rfl, rfl, hR1, rfl, .ref r, rfl, r, _, 1, _, rfl, rfl, hR1, rfl, p + 1, 1, rfl, rfl, a, _, _, _, rfl, rfl, hA1, ec, ?_⟩
        generalize ns[p.toNat] = cl
        refine ⟨.ref r, rfl, r, _, 2, _, rfl, rfl, hR1, rfl, sd, 48271, rfl, rfl, .inr (by decide), .int cl, rfl, _, cl, rfl, rfl, _, 11, rfl, rfl, .inl ⟨_, rfl, _, 2147483647, rfl, rfl, (show (0 : Int) < 2147483647 by decide), .ref r, rfl, r, _, 2, 2, rfl, rfl, e1, rfl, ?_⟩⟩
        generalize hH2 : upd H1 r (.lst ([V.ref a, .int (p + 1), .int sd, .int x].set 2 (.int ((sd * 48271 + cl + 11) % 2147483647)))) = H2
        have e2 : H2 r = some (.lst [.ref a, .int (p + 1), .int ((sd * 48271 + cl + 11) % 2147483647), .int x]) := by rw [← hH2]; exact upd_same
        have sb2 : SB r H H2 := by rw [← hH2]; exact sb1.trans SB.upd
        have hA2 : SqL K H2 a (ns.map V.int) := by rw [← hH2]; exact sql_row e1 hA1
        refine ⟨.int cl, rfl, 10, 18, rfl, rfl, ⟨by decide, by decide, by decide⟩, cl, _, rfl, rfl, _, rfl, ite2 (fun _ => ?_) (fun _ => ?_)⟩
        · refine ⟨.int cl, rfl, .int m, rfl, cl, m, rfl, rfl, cd, .ref r, rfl, r, _, 3, 3, rfl, rfl, e2, rfl, ?_⟩
          refine ⟨.int cl, rfl, .inl ⟨cl, rfl, .int m, rfl, cl, m, rfl, rfl, m0, ?_⟩⟩
          exact qm _ _ (sb2.trans SB.upd) ⟨_, _, _, by omega, upd_same, sql_row e2 hA2⟩
        · refine ⟨.int cl, rfl, .inl ⟨cl, rfl, .int m, rfl, cl, m, rfl, rfl, m0, ?_⟩⟩
          exact qm _ _ sb2 ⟨_, _, _, by omega, e2, hA2⟩
def spPick (K : PySem.W.Frag) : Sp := fun vs H Q _ => ∃ (r a l : Addr) (ns : List Int) (xs : List V), vs = [.ref r, .ref l] ∧ H l = some (.lst xs) ∧ l ≠ r ∧ 0 < xs.length ∧ xs.length ≤ 1000 ∧ ns.length ≤ 1000 ∧ LRow K a ns r H ∧
  ∀ (i : Nat) y H', xs[i]? = some y → SB r H H' → LRow K a ns r H' → Q y H'
theorem ok_l_pick (M : Md P K mg c) (D : DefAt K mg "_law_pick" s_l_pick ["_law_row_here", "_law_kinds"]) (G : Df P w K mg base CX0 1 "_law_taken" ["_law_row_here", "_law_many"] (spTaken K)) : Df P w K mg base CX0 2 "_law_pick" ["_law_row_here", "_law_kinds"] (spPick K) := by
  refine D.df fun f fd F => F.ok sc_l_pick (fun vs H Q E h => ?_) (fun cdv A outer s H vs Q E hr h => ?_)
  · obtain ⟨r, a, l, ns, xs, rfl, _⟩ := h
    rfl
  · obtain ⟨r, a, l, ns, xs, rfl, hl, nr, h0, h1, hns, hR, q⟩ := h
    refine ⟨_, pss_one (ps_ret (pe_ix ix_list (pv 1) (Df.pe G hr (pa_cons (pv 0) (pa_cons (pe_callB call_len_seq rfl M.len boot_len (pa_cons (pv 1) pa_nil)) pa_nil))) (fun _ _ => rfl))), ?_⟩
    refine ⟨.ref l, rfl, .ref r, rfl, .ref l, rfl, l, xs, rfl, .inl (.inl (.inl hl)), r, a, _, ns, rfl, by omega, by omega, hns, hR, fun k H' hk sb hR' => ?_⟩
    have hk' : k < xs.length := by omega
    exact ⟨l, xs, _, xs[k], rfl, rfl, .inl (.inl (sb _ _ nr hl)), atI_nat (List.getElem?_eq_getElem hk'), q k _ H' (List.getElem?_eq_getElem hk') sb hR'⟩
end
end Rv

/-! ## RvLawH2 -/
/-! law's helpers: texts of signs. -/
namespace Rv
open PySem PySem.Spec PyProof.Rows L2
/-! ### texts of signs -/
def cd (b : Bool) : Nat := if b then 43 else 45
def tx (bs : List Bool) : Str := ⟨(bs.map cd).toArray⟩
theorem plus_eq : (Str.ofString "+" : Str) = tx [true] := by decide +kernel
theorem minus_eq : (Str.ofString "-" : Str) = tx [false] := by decide +kernel
theorem empty_eq : (Str.ofString "" : Str) = tx [] := by decide +kernel
theorem tl_tx (bs : List Bool) : TL.tl (tx bs) = bs.map cd := rfl
theorem tx_app (a b : List Bool) : tx a ++ tx b = tx (a ++ b) := TL.ext_tl (by rw [TL.tl_append, tl_tx, tl_tx, tl_tx, List.map_append])
theorem tx_len (bs : List Bool) : (tx bs).length = bs.length := by
  rw [TL.len_tl, tl_tx, List.length_map]
theorem tx_size (bs : List Bool) : (tx bs).cps.size = bs.length := by
  show (bs.map cd).toArray.size = bs.length
  simp
theorem tx_get (bs : List Bool) (i : Nat) (h : i < bs.length) : (tx bs).cps[i]? = some (cd bs[i]) := by
  show (bs.map cd).toArray[i]? = _
  simp [h]
theorem joinL_nil : ∀ ps : List (List Nat), TL.joinL [] ps = ps.flatten
  | [] => rfl
  | [p] => by
    show p = p ++ []
    rw [List.append_nil]
  | p :: q :: r => by
    show p ++ ([] ++ TL.joinL [] (q :: r)) = p ++ (q :: r).flatten
    rw [List.nil_append, joinL_nil (q :: r)]
theorem join_tx (bs : List Bool) : Txt.join (tx []) (bs.map fun b => tx [b]) = tx bs := by
  rw [TL.join_eq]
  refine TL.ext_tl ?_
  rw [TL.tl_join]
  show TL.joinL [] _ = _
  rw [joinL_nil, tl_tx]
  induction bs with
  | nil => rfl
  | cons b bs ih =>
    rw [List.map_cons, List.map_cons, List.flatten_cons, ih, List.map_cons]
    rfl
theorem sum_tx (bs : List Bool) : ((bs.map fun b => tx [b]).map (·.length)).sum = bs.length := by
  induction bs with
  | nil => rfl
  | cons b bs ih =>
    rw [List.map_cons, List.map_cons, List.sum_cons, ih, List.length_cons, tx_len]
    show 1 + bs.length = bs.length + 1
    omega
theorem range_get {α β : Type} (f : α → β) (d : α) (xs : List α) : (List.range xs.length).map (fun i => f (xs.getD i d)) = xs.map f := by
  refine List.ext_getElem? fun i => ?_
  rw [List.getElem?_map, List.getElem?_map]
  by_cases h : i < xs.length
  · rw [List.getElem?_range h, List.getElem?_eq_getElem h]
    simp [List.getD, h]
  · rw [List.getElem?_eq_none (by simpa using h), List.getElem?_eq_none (by simpa using h)]
    rfl
/-- a comprehension that maps what a walk gives -/
theorem lcW {J : It} {n : Nat} {G : Hp → Prop} {g : TG} {te : TE} {vs : List Nat} {σ : L2.St} {H1 : Hp} {D : Addr} {Qd : Hp → Prop} (it f : Nat → V) (wk : Walk J n G fun i H x H' => H' = H ∧ x = it i) (nD : H1 D = none) (hG : ∀ H', Same H1 H' → G H') (hz : n ≤ sizeLine)
    (step : ∀ (i : Nat) H (Q : VK), i < n → Same H1 H → (∀ H4, Same H H4 → Q (f i) H4) → g (it i) (wipe σ vs) H fun σ2 H2 => wipe σ2 vs = wipe σ vs ∧ te σ2 H2 Q) (hd : ∀ H', Same H1 H' → H' D = some (.lst ((List.range n).map f)) → Qd H') :
    ∃ W : Nat → Nat → Hp → Prop, (∃ m, W 0 m (upd H1 D (.lst []))) ∧ ∀ i m H, W i m H →
      (J.stop i H ∧ Qd H) ∨ (J.go i H ∧ ∃ Nx : Hp → Prop, (∀ H', Nx H' → ∃ m', m' < m ∧ W (i + 1) m' H') ∧ ∀ x H', J.yld i H x H' → g x (wipe σ vs) H' fun σ2 H2 => wipe σ2 vs = wipe σ vs ∧ tYes σ2 H2 fun b H3 =>
        if b = true then te σ2 H3 fun y H4 => ∃ acc, H4 D = some (.lst acc) ∧ acc.length < sizeLine ∧ Nx (upd H4 D (.lst (acc ++ [y]))) else Nx H3) := by
  refine ⟨fun i m H => m = n - i ∧ i ≤ n ∧ Same H1 H ∧ H D = some (.lst ((List.range i).map f)), ⟨_, rfl, Nat.zero_le _, sm_upd nD, upd_same⟩, fun i m H hW => ?_⟩
  obtain ⟨rfl, hi, sm, eD⟩ := hW
  by_cases c : i < n
  · refine .inr ⟨wk.goes i H c (hG H sm), fun H' => i + 1 ≤ n ∧ Same H1 H' ∧ H' D = some (.lst ((List.range (i + 1)).map f)), fun H' h => ⟨_, by omega, rfl, h.1, h.2.1, h.2.2⟩, fun x H' hy => ?_⟩
    obtain ⟨rfl, rfl⟩ := wk.yields i H x H' c (hG H sm) hy
    exact step i H' (fun y H4 => ∃ acc, H4 D = some (.lst acc) ∧ acc.length < sizeLine ∧ (i + 1 ≤ n ∧ Same H1 (upd H4 D (.lst (acc ++ [y]))) ∧ (upd H4 D (.lst (acc ++ [y]))) D = some (.lst ((List.range (i + 1)).map f)))) c sm fun H4 s4 => by
      refine ⟨_, s4 _ _ eD, ?_, c, sm_upd2 (sm.trans s4) nD, ?_⟩
      · rw [List.length_map, List.length_range]
        omega
      · rw [upd_same, List.range_succ, List.map_append]
        rfl
  · have e : i = n := by omega
    subst e
    exact .inl ⟨wk.stops H (hG H sm), hd H sm eD⟩
/-- the signs of a text, one by one -/
theorem walk_tx (bs : List Bool) : Walk (Its (tx bs)) bs.length (fun _ => True) fun i H x H' => H' = H ∧ x = .str (tx [bs.getD i false]) := by
  have w0 := walk_str (z := tx bs)
  rw [tx_size] at w0
  refine w0.mono (fun _ h => h) fun i H x H' hi _ hy => ?_
  obtain ⟨e, cc, ec, ev⟩ := hy
  refine ⟨e, ?_⟩
  rw [tx_get bs i hi] at ec
  have e2 : cd bs[i] = cc := Option.some.inj ec
  rw [ev, ← e2]
  have e3 : bs.getD i false = bs[i] := by simp [List.getD, hi]
  rw [e3]
  rfl
section
variable {P : Program} {w : World} {K : PySem.W.Frag} {mg : Str → Option Value} {base : Heap} {c : Cs}
def spWaysL : Sp := fun vs H Q _ => vs = [] ∧ ∀ l, H l = none → Q (.ref l) (upd H l (.lst WAY))
theorem ok_l_ways (M : Md P K mg c) (D : DefAt K mg "_law_ways" s_l_ways []) : Df P w K mg base CX0 1 "_law_ways" [] spWaysL := by
  refine D.df fun f fd F => F.ok sc_l_ways (fun vs H Q E h => ?_) (fun cdv A outer s H vs Q E hr h => ?_)
  · obtain ⟨rfl, _⟩ := h
    rfl
  · obtain ⟨rfl, q⟩ := h
    refine ⟨_, pss_one (ps_ret (pe_lst (pa_cons pe_str (pa_cons pe_str (pa_cons pe_str (pa_cons pe_str (pa_cons pe_str (pa_cons pe_str (pa_cons pe_str (pa_cons pe_str (pa_cons pe_str (pa_cons pe_str (pa_cons pe_str (pa_cons pe_str (pa_cons pe_str pa_nil))))))))))))))), ?_⟩
    exact ⟨by decide, fun l nl => q l nl⟩
def spWord : Sp := fun vs H Q _ => ∃ b : Bool, vs = [.str (tx [b])] ∧ ∀ H', Same H H' → Q (.str (vo b)) H'
theorem word_get : ∀ b : Bool, valV (mergeK [] [((Sum.inr (Str.ofString "+") : Key), V.str "allow"), (Sum.inr (Str.ofString "-"), V.str "deny")]) (.inr (tx [b])) = some (.str (vo b)) := by decide +kernel
theorem ok_l_word (M : Md P K mg c) (D : DefAt K mg "_law_word" s_l_word ["_law_sign"]) : Df P w K mg base CX0 1 "_law_word" ["_law_sign"] spWord := by
  refine D.df fun f fd F => F.ok sc_l_word (fun vs H Q E h => ?_) (fun cdv A outer s H vs Q E hr h => ?_)
  · obtain ⟨b, rfl, _⟩ := h
    rfl
  · obtain ⟨b, rfl, q⟩ := h
    refine ⟨_, pss_one (ps_ret (pe_dget (hu_of hr) (pe_disp (pps_cons pe_str pe_str (pps_cons pe_str pe_str pps_nil)) rfl rfl (fun z => by cases z) (by decide)) (pv 0) (fun _ _ => rfl))), ?_⟩
    refine fun p np => ⟨upd_same, [(Sum.inr (Str.ofString "+"), V.str "allow"), (Sum.inr (Str.ofString "-"), V.str "deny")], rfl, by decide, .str (tx [b]), rfl, p, .str (vo b), rfl, ?_, q _ ?_⟩
    · rw [← word_get b]
      exact DGet.k (k := Sum.inr (tx [b])) upd_same
    · exact sm_upd2 (sm_upd np) np
def spVoices : Sp := fun vs H Q _ => ∃ bs : List Bool, vs = [.str (tx bs)] ∧ bs.length ≤ 1000 ∧ ∀ H' p, Same H H' → H p = none → H' p = some (.tup (bs.map fun b => V.str (vo b))) → Q (.ref p) H'
theorem ok_l_voices (M : Md P K mg c) (D : DefAt K mg "_law_voices" s_l_voices ["_law_text"]) (G : Df P w K mg base CX0 1 "_law_word" ["_law_sign"] spWord) : Df P w K mg base CX0 2 "_law_voices" ["_law_text"] spVoices := by
  refine D.df fun f fd F => F.ok sc_l_voices (fun vs H Q E h => ?_) (fun cdv A outer s H vs Q E hr h => ?_)
  · obtain ⟨bs, rfl, _⟩ := h
    rfl
  · obtain ⟨bs, rfl, hz, q⟩ := h
    refine ⟨_, pss_one (ps_ret (pe_callTy call_tuple_of rfl M.ttuple boot_tuple (pa_cons
      (pe_lc (own := [("_law_sign", 1)]) (te := tCall spWord [] E0 (tCons (tVar 1) tNil)) rfl sc_l_voices.nd (pi_str (pv 0)) (blkOk_by (N := N_l_voices) (sc := defScope s_l_voices) (by decide +kernel)) (fun _ _ _ _ _ => pg_name (i := 1) sc_l_voices.nd rfl (.inl rfl) (.inr rfl)) (fun _ _ _ _ _ => pts_nil)
        (fun _ _ _ _ _ => Df.pe G hr (pa_cons (pv 1) pa_nil))) pa_nil))), ?_⟩
    refine ⟨_, rfl, tx bs, rfl, fun D nD => lcW (fun i => .str (tx [bs.getD i false])) (fun i => V.str (vo (bs.getD i false))) (walk_tx bs) nD (fun _ _ => trivial) (Nat.le_of_lt (small1000 hz)) (fun i H2 Q2 hi sm k2 => ⟨rfl, _, rfl, _, rfl, k2⟩) fun H' sm eD => ?_⟩
    rw [range_get (fun b => V.str (vo b)) false bs] at eD
    exact ⟨D, _, rfl, .inl ⟨.inl (.inl eD), fun p np => q _ p (sm.trans (sm_upd np)) (sm.free np) upd_same⟩⟩
/-! ### the short texts -/
def extB (r : List Bool) : List (List Bool) := [r ++ [true], r ++ [false]]
def rowsB : Nat → List (List Bool)
  | 0 => [[]]
  | n + 1 => (rowsB n).flatMap extB
def shortB : Nat → List (List Bool)
  | 0 => []
  | n + 1 => shortB n ++ rowsB (n + 1)
abbrev tv (bs : List Bool) : V := .str (tx bs)
theorem rowsB_len : ∀ n, n ≤ 3 → (rowsB n).length ≤ 8
  | 0, _ => by decide
  | 1, _ => by decide
  | 2, _ => by decide
  | 3, _ => by decide
  | n + 4, h => by omega
theorem rowsB_item : ∀ n, n ≤ 3 → ∀ r ∈ rowsB n, r.length ≤ 3
  | 0, _ => by decide
  | 1, _ => by decide
  | 2, _ => by decide
  | 3, _ => by decide
  | n + 4, h => by omega
theorem shortB_len : ∀ n, n ≤ 3 → (shortB n).length ≤ 14
  | 0, _ => by decide
  | 1, _ => by decide
  | 2, _ => by decide
  | 3, _ => by decide
  | n + 4, h => by omega
theorem flatB_take {rs : List (List Bool)} {i : Nat} {r : List Bool} (h : rs[i]? = some r) : ((rs.take (i + 1)).flatMap extB).map tv = ((rs.take i).flatMap extB).map tv ++ [tv (r ++ [true]), tv (r ++ [false])] := by
  rw [List.take_add_one, h, List.flatMap_append, List.map_append]
  simp [extB]
theorem flatB_len (rs : List (List Bool)) : (rs.flatMap extB).length = 2 * rs.length := by
  induction rs with
  | nil => rfl
  | cons r t ih =>
    rw [List.flatMap_cons, List.length_append, ih, List.length_cons]
    show 2 + 2 * t.length = 2 * (t.length + 1)
    omega
def spRowsT : Sp := fun vs H Q _ => ∃ n : Nat, vs = [.int n] ∧ n ≤ 3 ∧ ∀ H' l, Same H H' → H l = none → H' l = some (.lst ((rowsB n).map tv)) → Q (.ref l) H'
theorem ok_l_rows (M : Md P K mg c) (D : DefAt K mg "_law_rows" s_l_rows ["_law_length"]) : Df P w K mg base CX0 1 "_law_rows" ["_law_length"] spRowsT := by
  refine D.df fun f fd F => F.ok sc_l_rows (fun vs H Q E h => ?_) (fun cdv A outer s H vs Q E hr h => ?_)
  · obtain ⟨n, rfl, _⟩ := h
    rfl
  · obtain ⟨n, rfl, hn, q⟩ := h
    refine ⟨_, pss_cons (ps_set (i := 1) sc_l_rows.nd rfl (.inl rfl) (pe_lst (pa_cons pe_str pa_nil)))
      (pss_cons (ps_for PassesOwn.never rfl (pi_range1 rfl M.range (pa_cons (pv 0) pa_nil)) (pg_name (i := 2) sc_l_rows.nd rfl (.inl rfl))
          (pss_cons (ps_set (i := 3) sc_l_rows.nd rfl (.inl rfl) (pe_lst pa_nil))
          (pss_cons (ps_for PassesOwn.never rfl (pi_list (pv 1)) (pg_name (i := 4) sc_l_rows.nd rfl (.inl rfl))
            (pss_one (ps_set (i := 3) sc_l_rows.nd rfl (.inl rfl) (pe_op op_cat (pv 3) (pe_lst (pa_cons (pe_op op_add_str (pv 4) pe_str) (pa_cons (pe_op op_add_str (pv 4) pe_str) pa_nil)))))))
          (pss_one (ps_set (i := 1) sc_l_rows.nd rfl (.inl rfl) (pv 3))))))
      (pss_one (ps_ret (pv 1)))), ?_⟩
    refine ⟨by decide, fun l nl => ?_⟩
    refine ⟨.int n, rfl, n, rfl, by omega, by omega, ?_⟩
    refine for_range (fun i σ H' => i ≤ n ∧ Same H H' ∧ ∃ l z2 z3 z4, σ = [some (.int n), some (.ref l), z2, z3, z4] ∧ H l = none ∧ H' l = some (.lst ((rowsB i).map tv)))
      ⟨Nat.zero_le _, sm_upd nl, l, none, none, none, rfl, nl, by rw [upd_same, empty_eq]; rfl⟩ (fun i σ H1 hi hP => ?_) (fun σ H1 hP => ?_)
    · obtain ⟨_, sm, l, z2, z3, z4, rfl, nl, el⟩ := hP
      have hi' : i < n := hi
      have hsz := rowsB_len i (by omega)
      refine ⟨Nat.zero_le _, fun lg ng => ?_⟩
      have s2 : Same H1 (upd H1 lg (.lst [])) := sm_upd ng
      refine ⟨.ref l, rfl, l, rfl, ⟨_, .inl (.inl (s2 _ _ el))⟩, ?_⟩
      refine for_list (xs := (rowsB i).map tv) (fun j σ H' => j ≤ (rowsB i).length ∧ Same H1 H' ∧ ∃ lg y2 y4, σ = [some (.int n), some (.ref l), y2, some (.ref lg), y4] ∧ H1 lg = none ∧ H' lg = some (.lst ((((rowsB i).take j).flatMap extB).map tv)))
        ⟨Nat.zero_le _, s2, lg, _, _, rfl, ng, upd_same⟩ (fun j σ H' _ hP => .inl (.inl (hP.2.1 _ _ el))) (fun j x σ H2 hx hP => ?_) (fun σ H2 hP => ?_)
      · obtain ⟨hj, s12, lg, y2, y4, rfl, ng, eg⟩ := hP
        rw [List.getElem?_map] at hx
        obtain ⟨r, er, ex⟩ := Option.map_eq_some_iff.mp hx
        subst ex
        have rl := rowsB_item i (by omega) r (List.mem_of_getElem? er)
        have hlt : j < (rowsB i).length := (List.getElem?_eq_some_iff.mp er).1
        have szr : ∀ b, (tx r).length + (tx [b]).length ≤ sizeLine := fun b => by
          rw [tx_len, tx_len, sizeLine_eq]
          show r.length + 1 ≤ _
          omega
        refine ⟨.ref lg, rfl, tv r, rfl, tx r, _, rfl, rfl, by rw [plus_eq]; exact szr true, tv r, rfl, tx r, _, rfl, rfl, by rw [minus_eq]; exact szr false, (show 2 ≤ sizeLine by decide), fun p np => ?_⟩
        have s3 : Same H2 (upd H2 p (.lst [V.str (tx r ++ Str.ofString "+"), V.str (tx r ++ Str.ofString "-")])) := sm_upd np
        refine ⟨lg, p, _, _, rfl, rfl, s3 _ _ eg, upd_same, ?_, fun p2 np2 => ?_⟩
        · rw [List.length_map, flatB_len, List.length_take, sizeLine_eq]
          show 2 * min j (rowsB i).length + 2 ≤ _
          omega
        · refine ⟨hlt, (s12.trans s3).trans (sm_upd np2), p2, _, _, rfl, s12.free (s3.free np2), ?_⟩
          rw [upd_same, flatB_take er, plus_eq, minus_eq, tx_app, tx_app]
      · obtain ⟨hj, s12, lg, y2, y4, rfl, ng, eg⟩ := hP
        refine ⟨.ref lg, rfl, hi', sm.trans s12, lg, _, _, _, rfl, sm.free ng, ?_⟩
        rw [List.length_map, List.take_of_length_le (Nat.le_refl _)] at eg
        exact eg
    · obtain ⟨_, sm, l, z2, z3, z4, rfl, nl, el⟩ := hP
      exact ⟨.ref l, rfl, q H1 l sm nl el⟩
def spShortT : Sp := fun vs H Q _ => ∃ n : Nat, vs = [.int n] ∧ n ≤ 3 ∧ ∀ H' l, Same H H' → H l = none → H' l = some (.lst ((shortB n).map tv)) → Q (.ref l) H'
theorem ok_l_short (M : Md P K mg c) (D : DefAt K mg "_law_short" s_l_short ["_law_most"]) (G : Df P w K mg base CX0 1 "_law_rows" ["_law_length"] spRowsT) : Df P w K mg base CX0 2 "_law_short" ["_law_most"] spShortT := by
  refine D.df fun f fd F => F.ok sc_l_short (fun vs H Q E h => ?_) (fun cdv A outer s H vs Q E hr h => ?_)
  · obtain ⟨n, rfl, _⟩ := h
    rfl
  · obtain ⟨n, rfl, hn, q⟩ := h
    refine ⟨_, pss_cons (ps_set (i := 1) sc_l_short.nd rfl (.inl rfl) (pe_lst pa_nil))
      (pss_cons (ps_for PassesOwn.never rfl (pi_range2 rfl M.range (pa_cons pe_int (pa_cons (pe_op op_add (pv 0) pe_int) pa_nil))) (pg_name (i := 2) sc_l_short.nd rfl (.inl rfl))
          (pss_one (ps_set (i := 1) sc_l_short.nd rfl (.inl rfl) (pe_op op_cat (pv 1) (Df.pe G hr (pa_cons (pv 2) pa_nil))))))
      (pss_one (ps_ret (pv 1)))), ?_⟩
    refine ⟨Nat.zero_le _, fun l nl => ?_⟩
    refine ⟨.int n, rfl, n, 1, rfl, rfl, 1, (n : Int) + 1, rfl, by omega, ?_⟩
    refine for_range (fun i σ H' => i ≤ n ∧ Same H H' ∧ ∃ l z2, σ = [some (.int n), some (.ref l), z2] ∧ H l = none ∧ H' l = some (.lst ((shortB i).map tv)))
      ⟨Nat.zero_le _, sm_upd nl, l, none, rfl, nl, upd_same⟩ (fun i σ H1 hi hP => ?_) (fun σ H1 hP => ?_)
    · obtain ⟨_, sm, l, z2, rfl, nl, el⟩ := hP
      have hi' : i < n := by omega
      refine ⟨.ref l, rfl, .int (1 + (i : Int)), rfl, i + 1, by rw [show (1 : Int) + (i : Int) = ((i + 1 : Nat) : Int) by omega] <;> rfl, by omega, fun H2 b s12 nb eb => ?_⟩
      have b1 := shortB_len i (by omega)
      have b2 := rowsB_len (i + 1) (by omega)
      refine ⟨l, b, _, _, rfl, rfl, s12 _ _ el, eb, by rw [List.length_map, List.length_map, sizeLine_eq]; omega, fun p np => ?_⟩
      refine ⟨hi', (sm.trans s12).trans (sm_upd np), p, _, rfl, sm.free (s12.free np), ?_⟩
      rw [upd_same, ← List.map_append]
      rfl
    · obtain ⟨_, sm, l, z2, rfl, nl, el⟩ := hP
      have e : ((n : Int) + 1 - 1).toNat = n := by omega
      rw [e] at el
      exact ⟨.ref l, rfl, q H1 l sm nl el⟩
end
end Rv

/-! ## RvLawH3 -/
/-! law's helpers: a row of signs, a told table. -/
namespace Rv
open PySem PySem.Spec PyProof.Rows L2
section
variable {P : Program} {w : World} {K : PySem.W.Frag} {mg : Str → Option Value} {base : Heap} {c : Cs}
/-- an object that is younger than the row is written -/
theorem LRow.upd {H1 H4 : Hp} {a r D : Addr} {ns : List Int} {o : HO} (nD : H1 D = none) (l1 : LRow K a ns r H1) (l4 : LRow K a ns r H4) : LRow K a ns r (L2.upd H4 D o) := by
  have nr : r ≠ D := (l1.ne nD).symm
  obtain ⟨_, _, _, _, _, h1⟩ := l1
  obtain ⟨p, q, x, h0, e, h4⟩ := l4
  refine ⟨p, q, x, h0, by rw [upd_ne nr]; exact e, ?_⟩
  rcases h1 with h1 | h1
  · have na : a ≠ D := by
      rcases h1 with h1 | ⟨u, h1⟩
      · exact ne_of_none h1 nD
      · exact ne_of_none h1 nD
    rcases h4 with (h4 | ⟨u, h4⟩) | h4
    · exact .inl (.inl (by rw [upd_ne na]; exact h4))
    · exact .inl (.inr ⟨u, by rw [upd_ne na]; exact h4⟩)
    · exact .inr h4
  · exact .inr h1
/-! ### _law_row -/
abbrev SIGNS : List V := [.str (Str.ofString "+"), .str (Str.ofString "-")]
theorem sign_of {i : Nat} {y : V} (h : SIGNS[i]? = some y) : ∃ b : Bool, y = tv [b] := by
  match i, h with
  | 0, h =>
    cases h
    exact ⟨true, by rw [plus_eq]⟩
  | 1, h =>
    cases h
    exact ⟨false, by rw [minus_eq]⟩
def spRowT (K : PySem.W.Frag) : Sp := fun vs H Q _ => ∃ (r a : Addr) (m : Int) (ns : List Int), vs = [.ref r, .int m] ∧ 0 < m ∧ m ≤ 12 ∧ ns.length ≤ 1000 ∧ LRow K a ns r H ∧
  ∀ (bs : List Bool) H', 1 ≤ bs.length → (bs.length : Int) ≤ m → SB r H H' → LRow K a ns r H' → Q (tv bs) H'
theorem ok_l_row (M : Md P K mg c) (D : DefAt K mg "_law_row" s_l_row ["_law_row_here", "_law_most"]) (G : Df P w K mg base CX0 1 "_law_taken" ["_law_row_here", "_law_many"] (spTaken K)) (G2 : Df P w K mg base CX0 2 "_law_pick" ["_law_row_here", "_law_kinds"] (spPick K)) :
    Df P w K mg base CX0 3 "_law_row" ["_law_row_here", "_law_most"] (spRowT K) := by
  refine D.df fun f fd F => F.ok sc_l_row (fun vs H Q E h => ?_) (fun cdv A outer s H vs Q E hr h => ?_)
  · obtain ⟨r, a, m, ns, rfl, _⟩ := h
    rfl
  · obtain ⟨r, a, m, ns, rfl, m0, m1, hns, hR, q⟩ := h
    refine ⟨_, pss_one (ps_ret (pe_join pe_str
      (pe_lc (own := [("_law_turn", 2)]) (te := tCall (spPick K) [] E0 (tCons (tVar 0) (tCons (tLst (tCons (tC (.str (Str.ofString "+"))) (tCons (tC (.str (Str.ofString "-"))) tNil))) tNil))) rfl sc_l_row.nd (pi_range1 rfl M.range (pa_cons (pe_op op_add pe_int (Df.pe G (hr.mono (by decide)) (pa_cons (pv 0) (pa_cons (pv 1) pa_nil)))) pa_nil))
        (blkOk_by (N := N_l_row) (sc := defScope s_l_row) (by decide +kernel)) (fun _ _ _ _ _ => pg_name (i := 2) sc_l_row.nd rfl (.inl rfl) (.inr rfl)) (fun _ _ _ _ _ => pts_nil)
        (fun _ _ _ _ _ => Df.pe G2 hr (pa_cons (pv 0) (pa_cons (pe_lst (pa_cons pe_str (pa_cons pe_str pa_nil))) pa_nil)))))), ?_⟩
    refine ⟨⟨_, rfl⟩, .ref r, rfl, .int m, rfl, r, a, m, ns, rfl, m0, by omega, hns, hR, fun k H1 hk s1 hR1 => ?_⟩
    refine ⟨1, k, rfl, rfl, 1 + (k : Int), rfl, by omega, by omega, fun D nD => ?_⟩
    have nDr : D ≠ r := hR1.ne nD
    have ek : (1 + (k : Int)).toNat = k + 1 := by omega
    refine lc_range (fun i H' => SB r H1 H' ∧ LRow K a ns r H' ∧ ∃ bs : List Bool, bs.length = i ∧ H' D = some (.lst (bs.map fun b => tv [b]))) ⟨SB.same (sm_upd nD), hR1.same (sm_upd nD), [], rfl, upd_same⟩ (fun i H2 hi hP => ?_) (fun H2 hP => ?_)
    · obtain ⟨s2, hR2, bs, hb, eD⟩ := hP
      refine ⟨rfl, tY (iteT ⟨.ref r, rfl, by decide, fun p np => ?_⟩)⟩
      have npr : p ≠ r := hR2.ne np
      have s3 : Same H2 (upd H2 p (.lst SIGNS)) := sm_upd np
      refine ⟨r, a, p, ns, SIGNS, rfl, upd_same, npr, by decide, by decide, hns, hR2.same s3, fun j y H4 hy s4 hR4 => ?_⟩
      obtain ⟨b, rfl⟩ := sign_of hy
      have eD4 : H4 D = some (.lst (bs.map fun b => tv [b])) := s4 _ _ nDr (s3 _ _ eD)
      have sD : SB r H1 (upd H4 D (.lst ((bs.map fun b => tv [b]) ++ [tv [b]]))) := fun x o hx e => by
        rw [upd_ne (ne_of_none e nD)]
        exact s4 _ _ hx (s3 _ _ (s2 _ _ hx e))
      refine ⟨_, eD4, by rw [List.length_map, hb, sizeLine_eq]; omega, sD, LRow.upd nD hR1 hR4, bs ++ [b], by rw [List.length_append, hb]; rfl, by rw [upd_same, List.map_append]; rfl⟩
    · obtain ⟨s2, hR2, bs, hb, eD⟩ := hP
      have e1 : (bs.map fun b => tv [b]) = (bs.map fun b => tx [b]).map V.str := by rw [List.map_map]; rfl
      refine ⟨Str.ofString "", D, bs.map fun b => tx [b], rfl, rfl, .inl (.inl (.inl (by rw [← e1]; exact eD))), ?_, ?_⟩
      · rw [sum_tx, List.length_map, empty_eq, tx_len]
        show bs.length + bs.length * 0 ≤ 16777216
        omega
      · rw [empty_eq, join_tx]
        exact q bs H2 (by omega) (by omega) (s1.trans s2) hR2
/-! ### _law_turned -/
def spTurned : Sp := fun vs H Q _ => ∃ bs : List Bool, vs = [tv bs] ∧ bs.length ≤ 1000 ∧ ∀ H', Same H H' → Q (tv (bs.map not)) H'
theorem eq_plus : ∀ b : Bool, decide (V.str (tx [b]) = V.str (Str.ofString "+")) = b := by decide +kernel
theorem eq_minus : ∀ b : Bool, decide (V.str (tx [b]) = V.str (Str.ofString "-")) = !b := by decide +kernel
theorem ok_l_turned (M : Md P K mg c) (D : DefAt K mg "_law_turned" s_l_turned ["_law_text"]) : Df P w K mg base CX0 1 "_law_turned" ["_law_text"] spTurned := by
  refine D.df fun f fd F => F.ok sc_l_turned (fun vs H Q E h => ?_) (fun cdv A outer s H vs Q E hr h => ?_)
  · obtain ⟨bs, rfl, _⟩ := h
    rfl
  · obtain ⟨bs, rfl, hz, q⟩ := h
    refine ⟨_, pss_one (ps_ret (pe_join pe_str
      (pe_lc (own := [("_law_sign", 1)]) (te := tIf (tTest (tOp rEq (tVar 1) (tC (.str (Str.ofString "+"))))) (tC (.str (Str.ofString "-"))) (tC (.str (Str.ofString "+")))) rfl sc_l_turned.nd (pi_str (pv 0))
        (blkOk_by (N := N_l_turned) (sc := defScope s_l_turned) (by decide +kernel)) (fun _ _ _ _ _ => pg_name (i := 1) sc_l_turned.nd rfl (.inl rfl) (.inr rfl)) (fun _ _ _ _ _ => pts_nil)
        (fun _ _ _ _ _ => pe_ifExp (pt_cmpR op_eq (pv 1) pe_str (nomark _)) pe_str pe_str)))), ?_⟩
    refine ⟨⟨_, rfl⟩, _, rfl, tx bs, rfl, fun D nD => lcW (fun i => .str (tx [bs.getD i false])) (fun i => tv [!bs.getD i false]) (walk_tx bs) nD (fun _ _ => trivial) (Nat.le_of_lt (small1000 hz)) (fun i H2 Q2 hi sm k2 => ⟨rfl, _, rfl, rfl, _, rfl, ?_⟩) fun H' sm eD => ?_⟩
    · have k3 := k2 H2 (Same.refl _)
      rw [eq_plus]
      cases e : bs.getD i false with
      | true =>
        rw [e] at k3
        refine iteT ?_
        show Q2 (V.str (Str.ofString "-")) H2
        rw [minus_eq]
        exact k3
      | false =>
        rw [e] at k3
        refine iteF ?_
        show Q2 (V.str (Str.ofString "+")) H2
        rw [plus_eq]
        exact k3
    · rw [range_get (fun b => tv [!b]) false bs] at eD
      have e1 : (bs.map fun b => tv [!b]) = ((bs.map not).map fun b => tx [b]).map V.str := by rw [List.map_map, List.map_map]; rfl
      refine ⟨Str.ofString "", D, (bs.map not).map fun b => tx [b], rfl, rfl, .inl (.inl (.inl (by rw [← e1]; exact eD))), ?_, ?_⟩
      · rw [sum_tx, List.length_map, List.length_map, empty_eq, tx_len]
        show bs.length + bs.length * 0 ≤ 16777216
        omega
      · rw [empty_eq, join_tx]
        exact q H' sm
end
end Rv

/-! ## RvLawH4 -/
/-! law's helpers: _law_answer gives a sign. -/
namespace Rv
open PySem PySem.Spec PyProof.Rows L2
/-- from the first statement only I is kept -/
theorem pss_cut {X : Cx} {st : Stmt} {rest : List Stmt} {t u : TS} (I : L2.St → Hp → Prop) (h1 : PS X st t) (h2 : PSs X rest u) : PSs X (st :: rest) (fun D σ H => (∀ σ' H', I σ' H' → u D σ' H') ∧ t { D with nx := I } σ H) := by
  refine ⟨fun pins s σ H D J h => wpAny_execs_cons (thn (h1.run pins s σ H { D with nx := I } J h.2) fun f s1 q => ?_)⟩
  cases f with
  | next =>
    obtain ⟨σ', H', J', q'⟩ := q
    exact h2.run pins s1 σ' H' D J' (h.1 _ _ q')
  | ret v => exact q
  | brk => exact q
  | cont => exact q
abbrev wayS : List Str := ["allow over", "always allow", "always deny", "both ends", "deny over", "first", "island", "last", "most or allow", "most or deny", "most or first", "most or last", "odd"]
theorem way_str : WAY = wayS.map V.str := rfl
theorem way_most : ∀ wy ∈ wayS, decide (V.str (cutS wy none (some 7)) = V.str (Str.ofString "most or")) = true → cutS wy (some 8) none ∈ ([Str.ofString "allow", Str.ofString "deny", Str.ofString "first", Str.ofString "last"] : List Str) := by decide +kernel
theorem way_len : ∀ wy ∈ wayS, wy.length ≤ 20 := by decide +kernel
abbrev tiesK (a b : Bool) : List (L2.Key × V) := [(Sum.inr (Str.ofString "allow"), V.str (Str.ofString "+")), (Sum.inr (Str.ofString "deny"), V.str (Str.ofString "-")), (Sum.inr (Str.ofString "first"), tv [a]), (Sum.inr (Str.ofString "last"), tv [b])]
theorem ties_get : ∀ (a b : Bool), ∀ k ∈ ([Str.ofString "allow", Str.ofString "deny", Str.ofString "first", Str.ofString "last"] : List Str), ∃ d : Bool, valV (mergeK [] (tiesK a b)) (.inr k) = some (tv [d]) := by decide +kernel
theorem tx_at (bs : List Bool) (i : Nat) (h : i < bs.length) : atI (tx bs).cps.toList (i : Int) = some (cd bs[i]) := by
  refine atI_nat ?_
  show (bs.map cd)[i]? = _
  rw [List.getElem?_map, List.getElem?_eq_getElem h]
  rfl
theorem tx_last (bs : List Bool) (h : bs ≠ []) : atI (tx bs).cps.toList (-1) = some (cd (bs.getLast h)) := by
  have e : (tx bs).cps.toList = bs.dropLast.map cd ++ [cd (bs.getLast h)] := by
    show bs.map cd = _
    rw [← List.map_singleton, ← List.map_append, List.dropLast_concat_getLast]
  rw [e]
  exact atI_last _ _
theorem cutS_len (z : Str) (lo hi : Option Int) : (cutS z lo hi).length ≤ z.length := by
  have e : (cutS z lo hi).length = ((z.cps.toList.drop (HT.sIx z.length 0 lo)).take (HT.sIx z.length z.length hi - HT.sIx z.length 0 lo)).length := by
    rw [TL.len_tl]
    rfl
  rw [e, List.length_take, List.length_drop]
  have : z.cps.toList.length = z.length := (TL.len_tl z).symm
  omega
theorem ints_dp {K : PySem.W.Frag} {H : Hp} : ∀ is : List Int, DpAll K H (is.map V.int) (is.map PyData.int)
  | [] => .nil
  | i :: is => .cons (.int i) (ints_dp is)
theorem ints_shaped : ∀ is : List Int, is.length ≤ 2 → SeqAt.shaped (.list (is.map PyData.int)) = true
  | [], _ => rfl
  | [_], _ => rfl
  | [_, _], _ => rfl
  | _ :: _ :: _ :: r, h => absurd h (by
    show ¬ (r.length + 1 + 1 + 1 ≤ 2)
    omega)
section
variable {P : Program} {w : World} {K : PySem.W.Frag} {mg : Str → Option Value} {base : Heap} {c : Cs}
def spAnswerT : Sp := fun vs H Q _ => ∃ (wy : Str) (bs : List Bool), vs = [.str wy, tv bs] ∧ wy ∈ wayS ∧ 1 ≤ bs.length ∧ bs.length ≤ 3 ∧ ∀ H' b, Same H H' → Q (tv [b]) H'
theorem ok_l_answer (M : Md P K mg c) (D : DefAt K mg "_law_answer" s_l_answer ["_law_way", "_law_text"]) : Df P w K mg base CX0 1 "_law_answer" ["_law_way", "_law_text"] spAnswerT := by
  refine D.df fun f fd F => F.ok sc_l_answer (fun vs H Q E h => ?_) (fun cdv A outer s H vs Q E hr h => ?_)
  · obtain ⟨wy, bs, rfl, _⟩ := h
    rfl
  · obtain ⟨wy, bs, rfl, hw, h1, h3, q⟩ := h
    have hu := hu_of hr
    refine ⟨_, pss_cons (ps_set (i := 2) sc_l_answer.nd rfl (.inl rfl) (pe_op op_sub (pe_m1 PySem.F.slot_str_count PySem.F.type_str_count mt_count (pv 1) pe_str) (pe_m1 PySem.F.slot_str_count PySem.F.type_str_count mt_count (pv 1) pe_str)))
      (pss_cons (ps_if (pt_cmpR op_eq (pe_slice sl_str (pv 0) po_none (po_some pe_int)) pe_str (nomark _))
        (pss_cons (ps_set (i := 3) sc_l_answer.nd rfl (.inl rfl) (pe_disp (pps_cons pe_str pe_str (pps_cons pe_str pe_str (pps_cons pe_str (pe_ix ix_str (pv 1) pe_int (fun _ _ => rfl)) (pps_cons pe_str (pe_ix ix_str (pv 1) (pe_un un_neg pe_int) (fun _ _ => rfl)) pps_nil)))) rfl rfl (fun z => by cases z) (by decide)))
        (pss_one (ps_ret (pe_ifExp (pt_cmpR op_eq (pv 2) pe_int (nomark _)) (pe_dget hu (pv 3) (pe_slice sl_str (pv 0) (po_some pe_int) po_none) (fun _ _ => rfl)) (pe_ifExp (pt_cmpR op_gt (pv 2) pe_int (nomark _)) pe_str pe_str))))) pss_nil)
      (pss_cons (ps_if (pt_cmpR op_in_seq (pv 0) (pe_lst (pa_cons pe_str (pa_cons pe_str pa_nil))) rfl)
        (pss_one (ps_ret (pe_ix ix_str (pv 1) (pe_ifExp (pt_cmpR op_eq (pv 0) pe_str (nomark _)) pe_int (pe_op op_sub (pe_callB call_len_str rfl M.len boot_len (pa_cons (pv 1) pa_nil)) pe_int)) (fun _ _ => rfl)))) pss_nil)
      (pss_cut (fun σ H' => Same H H' ∧ ∃ y2 y3 y5 y6, ∃ b : Bool, σ = [some (.str wy), some (tv bs), y2, y3, some (.bl b), y5, y6]) (ps_set (i := 4) sc_l_answer.nd rfl (.inl rfl) (pe_cmpR op_eq (pv 0) pe_str (nomark _)))
      (pss_cut (fun σ H' => Same H H' ∧ ∃ y2 y3 y5 y6, ∃ b : Bool, σ = [some (.str wy), some (tv bs), y2, y3, some (.bl b), y5, y6]) (ps_if (pt_cmpR op_eq (pv 0) pe_str (nomark _)) (pss_one (ps_set (i := 4) sc_l_answer.nd rfl (.inl rfl) (pe_cmpR op_gt (pe_m1 PySem.F.slot_str_count PySem.F.type_str_count mt_count (pv 1) pe_str) pe_int (nomark _)))) pss_nil)
      (pss_cut (fun σ H' => Same H H' ∧ ∃ y2 y3 y5 y6, ∃ b : Bool, σ = [some (.str wy), some (tv bs), y2, y3, some (.bl b), y5, y6]) (ps_if (pt_cmpR op_eq (pv 0) pe_str (nomark _)) (pss_one (ps_set (i := 4) sc_l_answer.nd rfl (.inl rfl) (pe_cmpR op_eq (pe_m1 PySem.F.slot_str_count PySem.F.type_str_count mt_count (pv 1) pe_str) pe_int (nomark _)))) pss_nil)
      (pss_cut (fun σ H' => Same H H' ∧ ∃ y2 y3 y5 y6, ∃ b : Bool, σ = [some (.str wy), some (tv bs), y2, y3, some (.bl b), y5, y6]) (ps_if (pt_cmpR op_eq (pv 0) pe_str (nomark _)) (pss_one (ps_set (i := 4) sc_l_answer.nd rfl (.inl rfl) (pe_cmpR op_in_seq (pe_m1 PySem.F.slot_str_count PySem.F.type_str_count mt_count (pv 1) pe_str) (pe_lst (pa_cons pe_int (pa_cons pe_int (pa_cons pe_int (pa_cons pe_int (pa_cons pe_int (pa_cons pe_int (pa_cons pe_int pa_nil)))))))) rfl))) pss_nil)
      (pss_cut (fun σ H' => Same H H' ∧ ∃ y2 y3 y5 y6, ∃ b : Bool, σ = [some (.str wy), some (tv bs), y2, y3, some (.bl b), y5, y6]) (ps_if (pt_cmpR op_eq (pv 0) pe_str (nomark _)) (pss_one (ps_set (i := 4) sc_l_answer.nd rfl (.inl rfl) (pe_cmpR op_eq (pe_op op_add_str (pe_slice sl_str (pv 1) po_none (po_some pe_int)) (pe_slice sl_str (pv 1) (po_some (pe_un un_neg pe_int)) po_none)) pe_str (nomark _)))) pss_nil)
      (pss_cut (fun σ H' => Same H H' ∧ ∃ y2 y3 y5 y6, ∃ b : Bool, σ = [some (.str wy), some (tv bs), y2, y3, some (.bl b), y5, y6]) (ps_if (pt_cmpR op_eq (pv 0) pe_str (nomark _))
        (pss_cons (ps_setLc (i := 5) (own := [("_law_at", 6)]) (tt := tTest (tOp rNe (tOp rIxS (tVar 1) (tVar 6)) (tOp rIxS (tVar 1) (tOp (rI0 fun i j => V.int (i - j)) (tVar 6) (tC (.int 1)))))) (te := tVar 6) rfl sc_l_answer.nd rfl rfl (sw_true rfl rfl rfl (by decide +kernel))
            (pi_range2 rfl M.range (pa_cons pe_int (pa_cons (pe_callB call_len_str rfl M.len boot_len (pa_cons (pv 1) pa_nil)) pa_nil))) (blkOk_by (N := N_l_answer) (sc := defScope s_l_answer) (by decide +kernel)) (fun _ _ _ _ _ => pg_name (i := 6) sc_l_answer.nd rfl (.inl rfl) (.inr rfl))
            (fun _ _ _ _ _ => pts_one (pt_cmpR op_ne (pe_ix ix_str (pv 1) (pv 6) (fun _ _ => rfl)) (pe_ix ix_str (pv 1) (pe_op op_sub (pv 6) pe_int) (fun _ _ => rfl)) (nomark _))) (fun _ _ _ _ _ => pv 6))
        (pss_one (ps_set (i := 4) sc_l_answer.nd rfl (.inl rfl)
            (pe_or (pe_and (pe_cmpR op_eq (pe_ix ix_str (pv 1) pe_int (fun _ _ => rfl)) pe_str (nomark _)) (pe_one (pe_cmpR (op_eqD hr.units) (pv 5) (pe_lst pa_nil) (nomark _))))
              (pe_one (pe_and (pe_cmpR op_eq (pe_ix ix_str (pv 1) pe_int (fun _ _ => rfl)) pe_str (nomark _)) (pe_one (pe_cmpR op_eq (pe_callB call_len_seq rfl M.len boot_len (pa_cons (pv 5) pa_nil)) pe_int (nomark _))))))))) pss_nil)
      (pss_one (ps_ret (pe_ifExp (pt_val (pv 4)) pe_str pe_str))))))))))), ?_⟩
    have zt : (tx bs).length ≤ sizeLine := by
      rw [tx_len, sizeLine_eq]
      omega
    have zw : wy.length ≤ sizeLine := Nat.le_trans (way_len wy hw) (by decide)
    have h0 : bs ≠ [] := fun z => by
      rw [z] at h1
      exact absurd h1 (by decide)
    have at0 : atI (tx bs).cps.toList 0 = some (cd (bs[0]'h1)) := tx_at bs 0 h1
    have qp : ∀ H', Same H H' → Q (V.str (Str.ofString "+")) H' := fun H' s' => by
      rw [plus_eq]
      exact q H' true s'
    have qm : ∀ H', Same H H' → Q (V.str (Str.ofString "-")) H' := fun H' s' => by
      rw [minus_eq]
      exact q H' false s'
    -- more
    refine ⟨tv bs, rfl, ⟨_, rfl⟩, _, _, rfl, rfl, tv bs, rfl, ⟨_, rfl⟩, _, _, rfl, rfl, _, _, rfl, rfl, ?_⟩
    -- most or
    refine ⟨.str wy, rfl, 7, rfl, wy, rfl, zw, rfl, _, rfl, ite2 (fun ch => ?_) (fun _ => ?_)⟩
    · obtain ⟨d, ed⟩ := ties_get (bs[0]'h1) (bs.getLast h0) _ (way_most wy hw ch)
      refine fun p np => ⟨tv bs, rfl, tx bs, 0, _, rfl, rfl, zt, at0, tv bs, rfl, 1, rfl, tx bs, -1, _, rfl, rfl, zt, tx_last bs h0, upd_same, tiesK (bs[0]'h1) (bs.getLast h0), rfl, (show 4 ≤ 15 by decide), ?_⟩
      have sp := sm_upd2 (o := .dK (mergeK [] (tiesK (bs[0]'h1) (bs.getLast h0)))) (sm_upd (o := .dK []) np) np
      refine ⟨_, rfl, rfl, _, rfl, ite2 (fun _ => ?_) (fun _ => ?_)⟩
      · refine ⟨.ref p, rfl, .str wy, rfl, 8, rfl, wy, rfl, zw, p, tv [d], rfl, ?_, q _ d sp⟩
        rw [← ed]
        exact DGet.k (k := Sum.inr (cutS wy (some 8) none)) upd_same
      · exact ⟨_, rfl, _, _, rfl, rfl, _, rfl, ite2 (fun _ => qp _ sp) (fun _ => qm _ sp)⟩
    -- first, last
    refine ⟨.str wy, rfl, by decide, fun l nl => ⟨l, _, rfl, .inl (.inl (.inl upd_same)), rfl, rfl, _, rfl, ite2 (fun _ => ?_) (fun _ => ?_)⟩⟩
    · have sl : Same H _ := sm_upd (o := .lst [V.str (Str.ofString "first"), V.str (Str.ofString "last")]) nl
      refine ⟨tv bs, rfl, .str wy, rfl, rfl, _, rfl, ite2 (fun _ => ?_) (fun _ => ?_)⟩
      · exact ⟨tx bs, 0, _, rfl, rfl, zt, at0, q _ (bs[0]'h1) sl⟩
      · refine ⟨tv bs, rfl, tx bs, rfl, zt, _, 1, rfl, rfl, tx bs, _, _, rfl, rfl, zt, ?_, q _ (bs[bs.length - 1]'(by omega)) sl⟩
        have e : ((tx bs).length : Int) - 1 = ((bs.length - 1 : Nat) : Int) := by
          rw [tx_len]
          omega
        show atI _ (((tx bs).length : Int) - 1) = _
        rw [e]
        exact tx_at bs _ _
    have sl : Same H _ := sm_upd (o := .lst [V.str (Str.ofString "first"), V.str (Str.ofString "last")]) nl
    refine ⟨fun σ4 H4 i4 => ?_, .str wy, rfl, rfl, sl, _, _, _, _, _, rfl⟩
    obtain ⟨s4, y2, y3, y5, y6, b, rfl⟩ := i4
    refine ⟨fun σ5 H5 i5 => ?_, .str wy, rfl, rfl, _, rfl, ite2 (fun _ => ⟨tv bs, rfl, ⟨_, rfl⟩, _, _, rfl, rfl, _, _, rfl, rfl, s4, _, _, _, _, _, rfl⟩) (fun _ => ⟨s4, _, _, _, _, _, rfl⟩)⟩
    clear y2 y3 y5 y6 b s4 H4
    obtain ⟨s5, y2, y3, y5, y6, b, rfl⟩ := i5
    refine ⟨fun σ6 H6 i6 => ?_, .str wy, rfl, rfl, _, rfl, ite2 (fun _ => ⟨tv bs, rfl, ⟨_, rfl⟩, _, _, rfl, rfl, rfl, s5, _, _, _, _, _, rfl⟩) (fun _ => ⟨s5, _, _, _, _, _, rfl⟩)⟩
    clear y2 y3 y5 y6 b s5 H5
    obtain ⟨s6, y2, y3, y5, y6, b, rfl⟩ := i6
    refine ⟨fun σ7 H7 i7 => ?_, .str wy, rfl, rfl, _, rfl, ite2 (fun _ => ⟨tv bs, rfl, ⟨_, rfl⟩, _, _, rfl, rfl, by decide, fun p np => ⟨p, _, rfl, .inl (.inl (.inl upd_same)), rfl, rfl, s6.trans (sm_upd np), _, _, _, _, _, rfl⟩⟩) (fun _ => ⟨s6, _, _, _, _, _, rfl⟩)⟩
    clear y2 y3 y5 y6 b s6 H6
    obtain ⟨s7, y2, y3, y5, y6, b, rfl⟩ := i7
    refine ⟨fun σ8 H8 i8 => ?_, .str wy, rfl, rfl, _, rfl, ite2 (fun _ => ?_) (fun _ => ⟨s7, _, _, _, _, _, rfl⟩)⟩
    rotate_left
    · refine ⟨tv bs, rfl, 1, rfl, tx bs, rfl, zt, tv bs, rfl, 1, rfl, -1, rfl, tx bs, rfl, zt, _, _, rfl, rfl, ?_, rfl, s7, _, _, _, _, _, rfl⟩
      have l1 := cutS_len (tx bs) none (some 1)
      have l2 := cutS_len (tx bs) (some (-1)) none
      rw [tx_len] at l1 l2
      show (cutS (tx bs) none (some 1)).length + (cutS (tx bs) (some (-1)) none).length ≤ sizeLine
      rw [sizeLine_eq]
      omega
    clear y2 y3 y5 y6 b s7 H7
    obtain ⟨s8, y2, y3, y5, y6, b, rfl⟩ := i8
    refine ⟨fun σ9 H9 i9 => ?_, .str wy, rfl, rfl, _, rfl, ite2 (fun _ => ?_) (fun _ => ⟨s8, _, _, _, _, _, rfl⟩)⟩
    · obtain ⟨s9, y2, y3, y5, y6, b, rfl⟩ := i9
      exact ⟨_, rfl, _, rfl, ite2 (fun _ => qp _ s9) (fun _ => qm _ s9)⟩
    -- island
    refine ⟨tv bs, rfl, tx bs, rfl, zt, 1, ((tx bs).length : Int), rfl, by rw [tx_len]; omega, fun D nD => ?_⟩
    refine lc_range (fun i H' => Same H8 H' ∧ ∃ is : List Int, is.length ≤ i ∧ H' D = some (.lst (is.map V.int))) ⟨sm_upd nD, [], Nat.le_refl _, upd_same⟩ (fun i H' hi hP => ?_) (fun H' hP => ?_)
    · obtain ⟨s', is, il, eD⟩ := hP
      have hi' : i + 1 < bs.length := by
        rw [tx_len] at hi
        omega
      have ea : atI (tx bs).cps.toList (1 + (i : Int)) = some (cd (bs[i + 1]'hi')) := by
        rw [show 1 + (i : Int) = ((i + 1 : Nat) : Int) by omega]
        exact tx_at bs _ _
      have eb : atI (tx bs).cps.toList (1 + (i : Int) - 1) = some (cd (bs[i]'(by omega))) := by
        rw [show 1 + (i : Int) - 1 = (i : Int) by omega]
        exact tx_at bs _ _
      refine ⟨rfl, tv bs, rfl, .int (1 + (i : Int)), rfl, tx bs, _, _, rfl, rfl, zt, ea, tv bs, rfl, .int (1 + (i : Int)), rfl, _, 1, rfl, rfl, tx bs, _, _, rfl, rfl, zt, eb, rfl, _, rfl, ite2 (fun _ => ?_) (fun _ => ⟨s', is, Nat.le_succ_of_le il, eD⟩)⟩
      have hi3 : i < 3 := by omega
      refine ⟨.int (1 + (i : Int)), rfl, _, eD, by rw [List.length_map, sizeLine_eq]; omega, sm_upd2 s' nD, is ++ [1 + (i : Int)], by rw [List.length_append]; exact Nat.succ_le_succ il, ?_⟩
      rw [upd_same, List.map_append]
      rfl
    · obtain ⟨s', is, il, eD⟩ := hP
      have il2 : is.length ≤ 2 := by
        rw [tx_len] at il
        omega
      have snd : ∀ H2, Same H8 H2 → H2 D = some (.lst (is.map V.int)) → ∀ {R : VK}, (∀ b, R (.bl b) H2) → tAndV (tOp rEq (tOp rIxS (tVar 1) (tC (.int 0))) (tC (.str (Str.ofString "-")))) (tOp rEq (tCB (fun xs H Q => ∃ p ys, xs = [.ref p] ∧ (SqL K H p ys ∨ SqT K H p ys) ∧ Q (.int ys.length) H) (tCons (tVar 5) tNil)) (tC (.int 2)))
          [some (.str wy), some (tv bs), y2, y3, some (.bl b), some (.ref D), y6] H2 R := fun H2 s2 e2 R r => by
        refine ⟨tv bs, rfl, tx bs, 0, _, rfl, rfl, zt, at0, rfl, _, rfl, ite2 (fun _ => ?_) (fun _ => r _)⟩
        exact ⟨.ref D, rfl, D, _, rfl, .inl (.inl (.inl e2)), rfl, r _⟩
      refine ⟨tv bs, rfl, tx bs, 0, _, rfl, rfl, zt, at0, rfl, _, rfl, ite2 (fun _ => ?_) (fun _ => ⟨_, rfl, ite2 (fun z => nomatch z) (fun _ => snd _ s' eD fun b => ⟨s8.trans s', _, _, _, _, b, rfl⟩)⟩)⟩
      refine ⟨.ref D, rfl, Nat.zero_le _, fun p np => ⟨.list (is.map PyData.int), .list [], .lst (.inl (.inl ((sm_upd np) _ _ eD))) (ints_dp is), .lst (.inl (.inl upd_same)) .nil, ints_shaped is il2, rfl, _, rfl, ite2 (fun _ => ⟨s8.trans (s'.trans (sm_upd np)), _, _, _, _, _, rfl⟩) (fun _ => ?_)⟩⟩
      exact snd _ (s'.trans (sm_upd np)) ((sm_upd np) _ _ eD) fun b => ⟨s8.trans (s'.trans (sm_upd np)), _, _, _, _, b, rfl⟩
end
end Rv

/-! ## RvLawH5 -/
/-! law's helpers: the told table. -/
namespace Rv
open PySem PySem.Spec PyProof.Rows L2
/-- every short text has its sign -/
def ToldB (kvs : List (L2.Key × V)) : Prop := ∀ t ∈ shortB 3, ∃ b : Bool, valV kvs (.inr (tx t)) = some (tv [b])
theorem told_put {kvs : List (L2.Key × V)} {k : L2.Key} {b : Bool} (h : ToldB kvs) : ToldB (putK kvs k (tv [b])) := fun t ht => by
  rw [valV_put]
  by_cases e : (Sum.inr (tx t) : L2.Key) = k
  · exact ⟨b, by rw [if_pos e]⟩
  · obtain ⟨d, hd⟩ := h t ht
    exact ⟨d, by rw [if_neg e, hd]⟩
theorem way_of {i : Nat} {y : V} (h : WAY[i]? = some y) : ∃ wy, y = .str wy ∧ wy ∈ wayS := by
  rw [way_str, List.getElem?_map] at h
  obtain ⟨wy, h1, h2⟩ := Option.map_eq_some_iff.mp h
  exact ⟨wy, h2.symm, List.mem_of_getElem? h1⟩
theorem shortB_item : ∀ t ∈ shortB 3, 1 ≤ t.length ∧ t.length ≤ 3 := by decide
section
variable {P : Program} {w : World} {K : PySem.W.Frag} {mg : Str → Option Value} {base : Heap} {c : Cs}
theorem LRow.lst_ne {H : Hp} {a r l : Addr} {ns : List Int} {xs : List V} {s : Str} (h : LRow K a ns r H) (e : H l = some (.lst (.str s :: xs))) : l ≠ r := fun z => by
  obtain ⟨_, _, _, _, h1, _⟩ := h
  rw [z, h1] at e
  cases e
def spTable1 (K : PySem.W.Frag) : Sp := fun vs H Q _ => ∃ (r a : Addr) (ns : List Int), vs = [.ref r] ∧ ns.length ≤ 1000 ∧ LRow K a ns r H ∧ ∀ H' D kvs, SB r H H' → LRow K a ns r H' → H' D = some (.dK kvs) → ToldB kvs → Q (.ref D) H'
theorem ok_l_table (M : Md P K mg c) (D : DefAt K mg "_law_table" s_l_table ["_law_row_here"]) (G1 : Df P w K mg base CX0 1 "_law_taken" ["_law_row_here", "_law_many"] (spTaken K)) (G2 : Df P w K mg base CX0 2 "_law_pick" ["_law_row_here", "_law_kinds"] (spPick K))
    (G3 : Df P w K mg base CX0 1 "_law_ways" [] spWaysL) (G4 : Df P w K mg base CX0 2 "_law_short" ["_law_most"] spShortT) (G5 : Df P w K mg base CX0 1 "_law_answer" ["_law_way", "_law_text"] spAnswerT) (G6 : Df P w K mg base CX0 1 "_law_turned" ["_law_text"] spTurned) :
    Df P w K mg base CX0 3 "_law_table" ["_law_row_here"] (spTable1 K) := by
  refine D.df fun f fd F => F.ok sc_l_table (fun vs H Q E h => ?_) (fun cdv A outer s H vs Q E hr h => ?_)
  · obtain ⟨r, a, ns, rfl, _⟩ := h
    rfl
  · obtain ⟨r, a, ns, rfl, hns, hR, q⟩ := h
    have hu := hu_of hr
    have hr1 := hr.mono (j := 1) (by decide)
    refine ⟨_, pss_cons (ps_par (i := 1) (j := 2) rfl sc_l_table.nd rfl rfl (by decide) rfl rfl (pa_cons pe_dnewK (pa_cons (Df.pe G2 hr (pa_cons (pv 0) (pa_cons (Df.pe0 G3 hr1) pa_nil))) pa_nil)) rfl)
      (pss_cons (ps_set (i := 3) sc_l_table.nd rfl (.inl rfl) (Df.pe G1 hr1 (pa_cons (pv 0) (pa_cons pe_int pa_nil))))
      (pss_cons (ps_for PassesOwn.never rfl (pi_list (Df.pe G4 hr (pa_cons pe_int pa_nil))) (pg_name (i := 4) sc_l_table.nd rfl (.inl rfl))
        (pss_one (ps_dput hu (pv 1) (pv 4) (pe_ifExp (pt_cmpR op_eq (pv 3) pe_int (nomark _)) (Df.pe G2 hr (pa_cons (pv 0) (pa_cons (pe_lst (pa_cons pe_str (pa_cons pe_str pa_nil))) pa_nil))) (Df.pe G5 hr1 (pa_cons (pv 2) (pa_cons (pv 4) pa_nil)))) rfl)))
      (pss_cons (ps_set (i := 5) sc_l_table.nd rfl (.inl rfl) (Df.pe G2 hr (pa_cons (pv 0) (pa_cons (Df.pe G4 hr (pa_cons pe_int pa_nil)) pa_nil))))
      (pss_cons (ps_dput hu (pv 1) (pv 5) (pe_ifExp (pt_cmpR op_eq (pv 3) pe_int (nomark _)) (Df.pe G6 hr1 (pa_cons (pe_dget hu (pv 1) (pv 5) (fun _ _ => rfl)) pa_nil)) (pe_dget hu (pv 1) (pv 5) (fun _ _ => rfl))) rfl)
      (pss_one (ps_ret (pv 1))))))), ?_⟩
    intro D nD
    have s0 : Same H (upd H D (.dK [])) := sm_upd nD
    refine ⟨.ref r, rfl, rfl, fun l nl => ?_⟩
    have s1 : Same (upd H D (.dK [])) (upd (upd H D (.dK [])) l (.lst WAY)) := sm_upd nl
    have hR1 := (hR.same s0).same s1
    refine ⟨r, a, l, ns, WAY, rfl, upd_same, (hR.same s0).ne nl, by decide, by decide, hns, hR1, fun i y H1 hy sb1 hR1' => ?_⟩
    obtain ⟨wy, rfl, hw⟩ := way_of hy
    have nDr : D ≠ r := hR.ne nD
    have e1 : H1 D = some (.dK []) := sb1 _ _ nDr (s1 _ _ upd_same)
    have b1 : SB r H H1 := (SB.same (s0.trans s1)).trans sb1
    refine ⟨_, _, rfl, .ref r, rfl, r, a, 3, ns, rfl, by decide, by decide, hns, hR1', fun k H2 hk sb2 hR2 => ?_⟩
    have e2 : H2 D = some (.dK []) := sb2 _ _ nDr e1
    have b2 := b1.trans sb2
    refine ⟨3, rfl, by decide, fun H3 l3 s3 nl3 el3 => ?_⟩
    refine ⟨l3, rfl, ⟨_, .inl (.inl el3)⟩, ?_⟩
    -- a value comes
    have put : ∀ (H4 : Hp) (kvs : List (L2.Key × V)) (k : L2.Key) (b : Bool), SB r H H4 → LRow K a ns r H4 → H4 D = some (.dK kvs) → SB r H (upd H4 D (.dK (putK kvs k (tv [b])))) ∧ LRow K a ns r (upd H4 D (.dK (putK kvs k (tv [b])))) := fun H4 kvs k b sb l4 e4 =>
      ⟨fun x o hx e => by
        rw [upd_ne (ne_of_none e nD)]
        exact sb _ _ hx e, LRow.upd nD hR l4⟩
    refine for_list (xs := (shortB 3).map tv) (fun i σ H' => SB r H H' ∧ LRow K a ns r H' ∧ H' l3 = some (.lst ((shortB 3).map tv)) ∧ (∃ kvs, H' D = some (.dK kvs) ∧ kvs.length ≤ i ∧ ∀ (j : Nat) t, j < i → (shortB 3)[j]? = some t → ∃ b : Bool, valV kvs (.inr (tx t)) = some (tv [b])) ∧
        ∃ y4 y5, σ = [some (.ref r), some (.ref D), some (.str wy), some (.int k), y4, y5])
      ⟨b2.trans (SB.same s3), hR2.same s3, el3, ⟨[], s3 _ _ e2, Nat.le_refl _, fun j t h => absurd h (Nat.not_lt_zero _)⟩, _, _, rfl⟩ (fun i σ H' _ hP => .inl (.inl hP.2.2.1)) (fun i x σ H4 hx hP => ?_) (fun σ H4 hP => ?_)
    · obtain ⟨b4, hR4, el4, ⟨kvs, e4, hl, hk4⟩, y4, y5, rfl⟩ := hP
      rw [List.getElem?_map] at hx
      obtain ⟨t, et, ex⟩ := Option.map_eq_some_iff.mp hx
      subst ex
      have hlt : i < (shortB 3).length := (List.getElem?_eq_some_iff.mp et).1
      have hi14 : i < 14 := hlt
      have hmem := shortB_item t (List.mem_of_getElem? et)
      have fin : ∀ (H5 : Hp) (b : Bool), SB r H4 H5 → LRow K a ns r H5 → SB r H (upd H5 D (.dK (putK kvs (.inr (tx t)) (tv [b])))) ∧ LRow K a ns r (upd H5 D (.dK (putK kvs (.inr (tx t)) (tv [b])))) ∧ (upd H5 D (.dK (putK kvs (.inr (tx t)) (tv [b])))) l3 = some (.lst ((shortB 3).map tv)) ∧
          (∃ kvs', (upd H5 D (.dK (putK kvs (.inr (tx t)) (tv [b])))) D = some (.dK kvs') ∧ kvs'.length ≤ i + 1 ∧ ∀ (j : Nat) t', j < i + 1 → (shortB 3)[j]? = some t' → ∃ b : Bool, valV kvs' (.inr (tx t')) = some (tv [b])) := fun H5 b sb hR5 => by
        have e5 : H5 D = some (.dK kvs) := sb _ _ nDr e4
        obtain ⟨p1, p2⟩ := put H5 kvs (.inr (tx t)) b (b4.trans sb) hR5 e5
        have l3D : l3 ≠ D := fun z => by
          rw [z, e4] at el4
          cases el4
        refine ⟨p1, p2, by rw [upd_ne l3D]; exact sb _ _ (hR4.lst_ne el4) el4, _, upd_same, Nat.le_trans (length_putK _ _ _) (Nat.succ_le_succ hl), fun j t' hj ht' => ?_⟩
        rw [valV_put]
        by_cases e : (Sum.inr (tx t') : L2.Key) = Sum.inr (tx t)
        · exact ⟨b, by rw [if_pos e]⟩
        · have hj2 : j < i := by
            rcases Nat.lt_or_ge j i with z | z
            · exact z
            · have z2 : j = i := by omega
              rw [z2, et] at ht'
              cases ht'
              exact absurd rfl e
          obtain ⟨d, hd⟩ := hk4 j t' hj2 ht'
          exact ⟨d, by rw [if_neg e, hd]⟩
      have szk : kvs.length < sizeLine := by
        rw [sizeLine_eq]
        omega
      refine ⟨_, rfl, rfl, _, rfl, ite2 (fun _ => ?_) (fun _ => ?_)⟩
      · refine ⟨.ref r, rfl, by decide, fun p np => ?_⟩
        have s5 : Same H4 (upd H4 p (.lst SIGNS)) := sm_upd np
        refine ⟨r, a, p, ns, SIGNS, rfl, upd_same, hR4.ne np, by decide, by decide, hns, hR4.same s5, fun j y H5 hy sb5 hR5 => ?_⟩
        obtain ⟨b, rfl⟩ := sign_of hy
        have sb : SB r H4 H5 := (SB.same s5).trans sb5
        obtain ⟨f1, f2, f3, f4⟩ := fin H5 b sb hR5
        exact ⟨.ref D, rfl, tv t, rfl, D, _, rfl, DPut.k (k := Sum.inr (tx t)) (sb _ _ nDr e4) szk, f1, f2, f3, f4, _, _, rfl⟩
      · refine ⟨.str wy, rfl, tv t, rfl, wy, t, rfl, hw, hmem.1, hmem.2, fun H5 b s5 => ?_⟩
        obtain ⟨f1, f2, f3, f4⟩ := fin H5 b (SB.same s5) (hR4.same s5)
        exact ⟨.ref D, rfl, tv t, rfl, D, _, rfl, DPut.k (k := Sum.inr (tx t)) (s5 _ _ e4) szk, f1, f2, f3, f4, _, _, rfl⟩
    · obtain ⟨b4, hR4, el4, ⟨kvs, e4, hl, hk4⟩, y4, y5, rfl⟩ := hP
      have told : ToldB kvs := fun t ht => by
        obtain ⟨j, hj⟩ := List.mem_iff_getElem?.mp ht
        exact hk4 j t (List.getElem?_eq_some_iff.mp hj).1 hj
      have szk : kvs.length < sizeLine := by
        have : kvs.length ≤ 14 := hl
        rw [sizeLine_eq]
        omega
      refine ⟨.ref r, rfl, 3, rfl, by decide, fun H5 l5 s5 nl5 el5 => ?_⟩
      have hR5 := hR4.same s5
      refine ⟨r, a, l5, ns, _, rfl, el5, hR5.lst_ne el5, by decide, by decide, hns, hR5, fun j y H6 hy sb6 hR6 => ?_⟩
      rw [List.getElem?_map] at hy
      obtain ⟨t, et, ey⟩ := Option.map_eq_some_iff.mp hy
      subst ey
      obtain ⟨b, eb⟩ := told t (List.mem_of_getElem? et)
      have e6 : H6 D = some (.dK kvs) := sb6 _ _ nDr (s5 _ _ e4)
      have b6 := (b4.trans (SB.same s5)).trans sb6
      have get : ∀ H7, H7 D = some (.dK kvs) → DGet H7 D (tv t) (some (tv [b])) := fun H7 e7 => by
        rw [← eb]
        exact DGet.k (k := Sum.inr (tx t)) e7
      refine ⟨_, rfl, rfl, _, rfl, ite2 (fun _ => ?_) (fun _ => ?_)⟩
      · refine ⟨.ref D, rfl, tv t, rfl, D, tv [b], rfl, get H6 e6, [b], rfl, (show 1 ≤ 1000 by decide), fun H7 s7 => ?_⟩
        have e7 := s7 _ _ e6
        obtain ⟨p1, p2⟩ := put H7 kvs (.inr (tx t)) (!b) (b6.trans (SB.same s7)) (hR6.same s7) e7
        exact ⟨.ref D, rfl, tv t, rfl, D, _, rfl, DPut.k (k := Sum.inr (tx t)) e7 szk, .ref D, rfl, q _ D _ p1 p2 upd_same (told_put told)⟩
      · refine ⟨.ref D, rfl, tv t, rfl, D, tv [b], rfl, get H6 e6, ?_⟩
        obtain ⟨p1, p2⟩ := put H6 kvs (.inr (tx t)) b b6 hR6 e6
        exact ⟨.ref D, rfl, tv t, rfl, D, _, rfl, DPut.k (k := Sum.inr (tx t)) e6 szk, .ref D, rfl, q _ D _ p1 p2 upd_same (told_put told)⟩
/-! ### _law_as_table -/
def spAsTable : Sp := fun vs H Q _ => ∃ D kvs, vs = [.ref D] ∧ H D = some (.dK kvs) ∧ ToldB kvs ∧ ∀ H' p (bs : List Bool), Same H H' → H p = none → bs.length = 14 → H' p = some (.tup (bs.map fun b => V.str (vo b))) → Q (.ref p) H'
theorem ok_l_as_table (M : Md P K mg c) (D : DefAt K mg "_law_as_table" s_l_as_table ["_law_told"]) (G : Df P w K mg base CX0 1 "_law_word" ["_law_sign"] spWord) (G4 : Df P w K mg base CX0 2 "_law_short" ["_law_most"] spShortT) :
    Df P w K mg base CX0 3 "_law_as_table" ["_law_told"] spAsTable := by
  refine D.df fun f fd F => F.ok sc_l_as_table (fun vs H Q E h => ?_) (fun cdv A outer s H vs Q E hr h => ?_)
  · obtain ⟨D, kvs, rfl, _⟩ := h
    rfl
  · obtain ⟨D, kvs, rfl, hD, told, q⟩ := h
    have hu := hu_of hr
    refine ⟨_, pss_one (ps_ret (pe_callTy call_tuple_of rfl M.ttuple boot_tuple (pa_cons
      (pe_lc (own := [("_law_text", 1)]) (te := tCall spWord [] E0 (tCons (tDGet (tVar 0) (tVar 1)) tNil)) rfl sc_l_as_table.nd (pi_list (Df.pe G4 hr (pa_cons pe_int pa_nil))) (blkOk_by (N := N_l_as_table) (sc := defScope s_l_as_table) (by decide +kernel)) (fun _ _ _ _ _ => pg_name (i := 1) sc_l_as_table.nd rfl (.inl rfl) (.inr rfl)) (fun _ _ _ _ _ => pts_nil)
        (fun _ _ _ _ _ => Df.pe G (hr.mono (by decide)) (pa_cons (pe_dget hu (pv 0) (pv 1) (fun _ _ => rfl)) pa_nil))) pa_nil))), ?_⟩
    refine ⟨3, rfl, by decide, fun H1 l s1 nl el => ⟨l, rfl, ⟨_, .inl (.inl el)⟩, fun D2 nD2 => ?_⟩⟩
    have ch : ∀ t : List Bool, ∃ b : Bool, t ∈ shortB 3 → valV kvs (.inr (tx t)) = some (tv [b]) := fun t => by
      by_cases h : t ∈ shortB 3
      · obtain ⟨b, hb⟩ := told t h
        exact ⟨b, fun _ => hb⟩
      · exact ⟨false, fun z => absurd z h⟩
    have ⟨g, hg⟩ : ∃ g : List Bool → Bool, ∀ t : List Bool, t ∈ shortB 3 → valV kvs (.inr (tx t)) = some (tv [g t]) := ⟨fun z => Classical.choose (ch z), fun z => Classical.choose_spec (ch z)⟩
    have wk : Walk (Itl K l) ((shortB 3).map tv).length (fun H => SqL K H l ((shortB 3).map tv)) (fun i H x H' => H' = H ∧ x = tv ((shortB 3).getD i [])) := (walk_list (K := K) (a := l) (xs := (shortB 3).map tv)).mono (fun _ h => h) fun i H x H' hi _ hy => by
      obtain ⟨e, ex⟩ := hy
      refine ⟨e, ?_⟩
      rw [List.length_map] at hi
      rw [List.getElem?_map, List.getElem?_eq_getElem hi] at ex
      have e2 : tv ((shortB 3)[i]) = x := Option.some.inj ex
      rw [← e2]
      simp [List.getD, hi]
    refine lcW (fun i => tv ((shortB 3).getD i [])) (fun i => V.str (vo (g ((shortB 3).getD i [])))) wk nD2 (fun H' s' => .inl (.inl (s' _ _ el))) (by decide) (fun i H2 Q2 hi sm k2 => ?_) fun H' sm eD => ?_
    · rw [List.length_map] at hi
      have hm : (shortB 3).getD i [] ∈ shortB 3 := by
        have e : (shortB 3).getD i [] = (shortB 3)[i] := by simp [List.getD, hi]
        rw [e]
        exact List.getElem_mem hi
      refine ⟨rfl, _, rfl, _, rfl, D, _, rfl, ?_, g ((shortB 3).getD i []), rfl, k2⟩
      rw [← hg _ hm]
      exact DGet.k (k := Sum.inr (tx ((shortB 3).getD i []))) (sm _ _ (s1 _ _ hD))
    · rw [List.length_map, range_get (fun t => V.str (vo (g t))) [] (shortB 3)] at eD
      refine ⟨D2, _, rfl, .inl ⟨.inl (.inl eD), fun p np => q _ p ((shortB 3).map g) (s1.trans (sm.trans (sm_upd np))) (s1.free (sm.free np)) (by rw [List.length_map]; rfl) ?_⟩⟩
      rw [upd_same, List.map_map]
      rfl
end
end Rv

/-! ## RvWrong -/
/-! _law_wrong: it calls what it got, and tells the error's kind. -/
namespace Rv
open PySem PySem.Spec PyProof.Rows L2
inductive Ec where
  | way | num | pro | pros | row | tab
  deriving DecidableEq
def Cs.at (c : Cs) : Ec → Addr
  | .way => c.way
  | .num => c.num
  | .pro => c.pro
  | .pros => c.pros
  | .row => c.row
  | .tab => c.tab
def Ec.txt : Ec → Str
  | .way => "way"
  | .num => "number"
  | .pro => "promise"
  | .pros => "promises"
  | .row => "row"
  | .tab => "table"
def Ec.ix : Ec → Bool
  | .row => true
  | .tab => true
  | _ => false
/-- what the top has left of the errors' classes -/
structure Wk (K : PySem.W.Frag) (mg : Str → Option Value) (c : Cs) (CV : Addr) : Prop where
  gV : mg "VoiceError" = some (.ref CV)
  exV : ExK K CV
  ex : ∀ e, ExK K (c.at e)
  no : ∀ e, PySem.W.findIn K (.ref (c.at e)) "index" = some none
  up : ∀ e, PySem.W.subIn K (.ref (c.at e)) (.ref CV) = some true
  sub : ∀ e e', PySem.W.subIn K (.ref (c.at e)) (.ref (c.at e')) = some (decide (e = e'))
theorem Wk.one {K : PySem.W.Frag} {mg : Str → Option Value} {c : Cs} {CV : Addr} (k : Wk K mg c CV) (e e' : Ec) : PySem.W.kitOne K (.ref (c.at e)) (.ref (c.at e')) = some (decide (e = e')) :=
  (k.ex e').one (k.sub e e') fun z => by
    have h1 := k.sub e e
    have h2 := k.sub e e'
    rw [z] at h1 h2
    rw [h1] at h2
    have h3 := Option.some.inj h2
    rw [← h3]
    exact decide_eq_true rfl
/-- the answer that is wished -/
def WishT (c : Cs) (Q : VK) : XK := fun cls d H' => (∃ e : Ec, e.ix = false ∧ cls = .ref (c.at e) ∧ d = none ∧ ∀ H2, Same H' H2 → Q (.str e.txt) H2) ∨
  ∃ (e : Ec) (dd : Addr) (v : V), e.ix = true ∧ cls = .ref (c.at e) ∧ d = some dd ∧ H' dd = some (ixD v) ∧ ∀ H2 p, Same H' H2 → H' p = none → H2 p = some (.tup [.str e.txt, v]) → Q (.ref p) H2
def TTw (c : Cs) : (XK → Hp → VK → Prop) → Hp → VK → Prop := fun tl H Q => ∀ (E : XK) (Qn : VK), (∀ cls d H', WishT c Q cls d H' → E cls d H') → tl E H Qn
theorem pss_ex {X : Cx} {α : Type} {p : α → Prop} {b : List Stmt} {t : α → TS} (h : ∀ x, p x → PSs X b (t x)) : PSs X b (fun D σ H => ∃ x, p x ∧ t x D σ H) :=
  ⟨fun pins s σ H D I ⟨x, px, hx⟩ => (h x px).run pins s σ H D I hx⟩
section
variable {X : Cx} {c : Cs} {CV : Addr}
/-- isinstance(_law_e, that class) -/
abbrev tIs (K : PySem.W.Frag) (D a : Addr) (d : Option Addr) (C : Addr) : TE := tCB (rIsX K D a d) (tCons (tVar 1) (tCons (tC (.ref C)) tNil))
/-- the except clause's suite, for an error of the class at De -/
def tSuite (X : Cx) (c : Cs) (e : Ec) (a : Addr) (d : Option Addr) : TS :=
  tSeq (tIfS (tB (tCB (rIsXT X.K (c.at e) a d) (tCons (tVar 1) (tCons (tTup (tCons (tC (.ref c.row)) (tCons (tC (.ref c.tab)) tNil))) tNil))))
      (tRet (tTup (tCons (tIf (tB (tIs X.K (c.at e) a d c.row)) (tC (.str (Str.ofString "row"))) (tC (.str (Str.ofString "table")))) (tCons (tXf a (.ref (c.at e)) d (c.at e) "index" (tVar 1)) tNil)))) tNext)
    (tSeq (tAsg (tLst (tCons (tIs X.K (c.at e) a d c.way) (tCons (tIs X.K (c.at e) a d c.num) (tCons (tIs X.K (c.at e) a d c.pro) (tCons (tIs X.K (c.at e) a d c.pros) tNil))))) (gName 2))
      (tRet (tIf (tTest (tOp rEq (tBM X.K "list" (rCntV X.K) (tVar 2) (tCons (tC (.bl true)) tNil)) (tC (.int 1))))
        (tOp (rIxL X.K) (tLst (tCons (tC (.str (Str.ofString "way"))) (tCons (tC (.str (Str.ofString "number"))) (tCons (tC (.str (Str.ofString "promise"))) (tCons (tC (.str (Str.ofString "promises"))) tNil))))) (tBM X.K "list" (rIndex X.K) (tVar 2) (tCons (tC (.bl true)) tNil)))
        (tC (.str (Str.ofString "other"))))))
theorem read_suite {K : PySem.W.Frag} {mg : Str → Option Value} (k : Wk K mg c CV) (e : Ec) (a : Addr) (d : Option Addr) (X : Cx) (eK : X.K = K) (D : Ends) (σ0 : L2.St) (H : Hp) (h1 : σ0[1]? = some (some (.ref a))) (hl : σ0.length = 3) (Q : VK) (hD : D.rt = Q)
    (w : (e.ix = false ∧ d = none ∧ ∀ H2, Same H H2 → Q (.str e.txt) H2) ∨ (∃ (dd : Addr) (v : V), e.ix = true ∧ d = some dd ∧ H dd = some (ixD v) ∧ ∀ H2 p, Same H H2 → H p = none → H2 p = some (.tup [.str e.txt, v]) → Q (.ref p) H2)) : tSuite X c e a d D σ0 H := by
  subst eK
  subst hD
  have hdt : ∀ H2, Same H H2 → DictT d H2 := fun H2 s => by
    rcases w with ⟨_, z, _⟩ | ⟨dd, v, _, z, z2, _⟩
    · exact .inl z
    · exact .inr ⟨dd, _, z, s _ _ z2⟩
  refine ⟨.ref a, h1, (show 2 ≤ sizeLine by decide), fun p np => ⟨p, c.row, c.tab, _, _, rfl, upd_same, hdt _ (sm_upd np), k.one e .row, k.one e .tab, _, rfl, ?_⟩⟩
  have s1 : Same H (upd H p (.tup [.ref c.row, .ref c.tab])) := sm_upd np
  rcases w with ⟨hi, hd, q⟩ | ⟨dd, v, hi, hd, hx, q⟩
  · -- no index
    have e1 : (decide (e = .row) || decide (e = .tab)) = false := by cases e <;> first | rfl | (cases hi; done)
    refine ifF e1 ?_
    refine ⟨.ref a, h1, c.way, _, rfl, hdt _ s1, k.one e .way, .ref a, h1, c.num, _, rfl, hdt _ s1, k.one e .num, .ref a, h1, c.pro, _, rfl, hdt _ s1, k.one e .pro, .ref a, h1, c.pros, _, rfl, hdt _ s1, k.one e .pros, (show 4 ≤ sizeLine by decide), fun l nl => ?_⟩
    have s2 := s1.trans (sm_upd (o := .lst [V.bl (decide (e = .way)), .bl (decide (e = .num)), .bl (decide (e = .pro)), .bl (decide (e = .pros))]) nl)
    have g2 : (σ0.set 2 (some (V.ref l)))[2]? = some (some (V.ref l)) := by
      rw [List.getElem?_set_self (by omega)]
    have hS : SqL X.K (upd (upd H p (.tup [.ref c.row, .ref c.tab])) l (.lst [V.bl (decide (e = .way)), .bl (decide (e = .num)), .bl (decide (e = .pro)), .bl (decide (e = .pros))])) l [V.bl (decide (e = .way)), .bl (decide (e = .num)), .bl (decide (e = .pro)), .bl (decide (e = .pros))] := .inl (.inl upd_same)
    refine ⟨.ref l, g2, .inl ⟨rfl, _, hS⟩, l, _, .bl true, rfl, rfl, hS, rfl, rfl, rfl, _, rfl, ?_⟩
    have e2 : decide (V.int (([V.bl (decide (e = .way)), .bl (decide (e = .num)), .bl (decide (e = .pro)), .bl (decide (e = .pros))].countP (fun z => eqV z (.bl true)) : Nat) : Int) = V.int 1) = true := by cases e <;> first | (cases hi; done) | decide
    refine ifT e2 ⟨(show 4 ≤ sizeLine by decide), fun l2 nl2 => ?_⟩
    have s3 := s2.trans (sm_upd (o := .lst [V.str (Str.ofString "way"), .str (Str.ofString "number"), .str (Str.ofString "promise"), .str (Str.ofString "promises")]) nl2)
    have ne : l ≠ l2 := ne_of_none upd_same nl2
    have hS3 : SqL X.K (upd (upd (upd H p (.tup [.ref c.row, .ref c.tab])) l (.lst [V.bl (decide (e = .way)), .bl (decide (e = .num)), .bl (decide (e = .pro)), .bl (decide (e = .pros))])) l2 (.lst [V.str (Str.ofString "way"), .str (Str.ofString "number"), .str (Str.ofString "promise"), .str (Str.ofString "promises")])) l
        [V.bl (decide (e = .way)), .bl (decide (e = .num)), .bl (decide (e = .pro)), .bl (decide (e = .pros))] := .inl (.inl (by rw [upd_ne ne]; exact upd_same))
    have fin := q _ s3
    refine ⟨.ref l, g2, .inl ⟨rfl, _, hS3⟩, ?_⟩
    cases e with
    | way => exact ⟨l, _, .bl true, 0, .bl true, rfl, rfl, hS3, rfl, rfl, rfl, rfl, fun m z h => absurd h (Nat.not_lt_zero _), l2, _, 0, _, rfl, rfl, .inl (.inl upd_same), rfl, fin⟩
    | num => exact ⟨l, _, .bl true, 1, .bl true, rfl, rfl, hS3, rfl, rfl, rfl, rfl, fun m z h hz => (match m, h, hz with | 0, _, hz => by cases hz; rfl), l2, _, 1, _, rfl, rfl, .inl (.inl upd_same), rfl, fin⟩
    | pro => exact ⟨l, _, .bl true, 2, .bl true, rfl, rfl, hS3, rfl, rfl, rfl, rfl, fun m z h hz => (match m, h, hz with | 0, _, hz => by cases hz; rfl | 1, _, hz => by cases hz; rfl), l2, _, 2, _, rfl, rfl, .inl (.inl upd_same), rfl, fin⟩
    | pros => exact ⟨l, _, .bl true, 3, .bl true, rfl, rfl, hS3, rfl, rfl, rfl, rfl, fun m z h hz => (match m, h, hz with | 0, _, hz => by cases hz; rfl | 1, _, hz => by cases hz; rfl | 2, _, hz => by cases hz; rfl), l2, _, 3, _, rfl, rfl, .inl (.inl upd_same), rfl, fin⟩
    | row => cases hi
    | tab => cases hi
  · have e1 : (decide (e = .row) || decide (e = .tab)) = true := by cases e <;> first | rfl | (cases hi; done)
    refine ifT e1 ?_
    refine ⟨.ref a, h1, c.row, _, rfl, hdt _ s1, k.one e .row, _, rfl, ?_⟩
    have xi : ∀ {R : VK}, R v (upd H p (.tup [.ref c.row, .ref c.tab])) → tXf a (.ref (c.at e)) d (c.at e) "index" (tVar 1) σ0 (upd H p (.tup [.ref c.row, .ref c.tab])) R := fun {R} r =>
      ⟨.ref a, h1, rfl, rfl, dd, _, v, hd, s1 _ _ hx, by simp [List.lookup], r⟩
    cases e with
    | row => exact iteT (xi ⟨(show 2 ≤ sizeLine by decide), fun p2 np2 => q _ p2 (s1.trans (sm_upd np2)) (s1.free np2) upd_same⟩)
    | tab => exact iteF (xi ⟨(show 2 ≤ sizeLine by decide), fun p2 np2 => q _ p2 (s1.trans (sm_upd np2)) (s1.free np2) upd_same⟩)
    | way => cases hi
    | num => cases hi
    | pro => cases hi
    | pros => cases hi
theorem wrong_gives {k : Nat} {g : Addr} {cdg : Value} (M : Md X.prog X.K X.mg c) (wk : Wk X.K X.mg c CV) : RvL.Gives1 X N_l_wrong "_law_wrong" (defScope s_l_wrong) g cdg (defBody s_l_wrong) "_law_work" k (TTw c) := by
  intro f s H Q tl hr hlam hTT
  obtain ⟨fR, TR⟩ := M.cRow
  obtain ⟨fT, TT⟩ := M.cTab
  refine ⟨_, pss_cons (ps_try_as (i := 1) (Wout := fun _ _ _ _ => False) (tb := fun W => tDrop (fun σZ HZ Q => σZ[0]? = some (some (.ref f)) ∧ tl (WE W σZ) HZ Q))
      (ts := fun a cls d => fun D σ H => ∃ e : Ec, cls = .ref (c.at e) ∧ tSuite X c e a d D σ H) rfl rfl sc_l_wrong.nd rfl rfl ⟨rfl, by decide, .inl wk.gV⟩ takes0
      (fun W pn xe tk hp => pss_one (ps_expr (hlam W pn xe _ _ tk)))
      (fun a oe cls d pn hz hf => pss_ex fun e he => by
        subst he
        exact pss_cons (ps_if (pt_val (pe_callB (call_isXT (wk.ex e) hz hf) rfl M.isinst boot_isinstance (pa_cons (pv 1) (pa_cons (pe_tup (pa_cons (pe_glob (v := .ref c.row) rfl TR.gC rfl) (pa_cons (pe_glob (v := .ref c.tab) rfl TT.gC rfl) pa_nil))) pa_nil))))
            (pss_one (ps_ret (pe_tup (pa_cons (pe_ifExp (pt_val (pe_callB (call_isX (wk.ex e) hz hf) rfl M.isinst boot_isinstance (pa_cons (pv 1) (pa_cons (pe_glob (v := .ref c.row) rfl TR.gC rfl) pa_nil)))) pe_str pe_str)
              (pa_cons (pe_xf (C := c.at e) ⟨(wk.ex e).ga, (wk.ex e).gg, (wk.ex e).ex, (wk.ex e).hd⟩ (wk.no e) hz hf (pv 1)) pa_nil))))) pss_nil)
          (pss_cons (ps_set (i := 2) sc_l_wrong.nd rfl (.inl rfl) (pe_lst (pa_cons (pe_callB (call_isX (wk.ex e) hz hf) rfl M.isinst boot_isinstance (pa_cons (pv 1) (pa_cons (pe_glob (v := .ref c.way) rfl M.cWay.g rfl) pa_nil)))
              (pa_cons (pe_callB (call_isX (wk.ex e) hz hf) rfl M.isinst boot_isinstance (pa_cons (pv 1) (pa_cons (pe_glob (v := .ref c.num) rfl M.cNum.g rfl) pa_nil)))
              (pa_cons (pe_callB (call_isX (wk.ex e) hz hf) rfl M.isinst boot_isinstance (pa_cons (pv 1) (pa_cons (pe_glob (v := .ref c.pro) rfl M.cPro.g rfl) pa_nil)))
              (pa_cons (pe_callB (call_isX (wk.ex e) hz hf) rfl M.isinst boot_isinstance (pa_cons (pv 1) (pa_cons (pe_glob (v := .ref c.pros) rfl M.cPros.g rfl) pa_nil))) pa_nil))))))
          (pss_one (ps_ret (pe_ifExp (pt_cmpR op_eq (pe_bm PySem.F.plainAttrs_list PySem.F.slot_list_count PySem.F.type_list_count mt_countV (pv 2) (pa_cons pe_bl pa_nil)) pe_int (nomark _))
            (pe_ix ix_list (pe_lst (pa_cons pe_str (pa_cons pe_str (pa_cons pe_str (pa_cons pe_str pa_nil))))) (pe_bm PySem.F.plainAttrs_list PySem.F.slot_list_index PySem.F.type_list_index mt_index (pv 2) (pa_cons pe_bl pa_nil)) (fun _ _ => rfl)) pe_str))))))
    (pss_one (ps_ret pe_str)), ?_⟩
  refine ⟨rfl, hTT _ _ fun cls d H' w => ?_⟩
  have ww : ∃ e : Ec, cls = .ref (c.at e) ∧ ((e.ix = false ∧ d = none ∧ ∀ H2, Same H' H2 → Q (.str e.txt) H2) ∨ (∃ (dd : Addr) (v : V), e.ix = true ∧ d = some dd ∧ H' dd = some (ixD v) ∧ ∀ H2 p, Same H' H2 → H' p = none → H2 p = some (.tup [.str e.txt, v]) → Q (.ref p) H2)) := by
    rcases w with ⟨e, h1, h2, h3, h4⟩ | ⟨e, dd, v, h1, h2, h3, h4, h5⟩
    · exact ⟨e, h2, .inl ⟨h1, h3, h4⟩⟩
    · exact ⟨e, h2, .inr ⟨dd, v, h1, h3, h4, h5⟩⟩
  obtain ⟨e, he, ww⟩ := ww
  show ∃ b, PySem.W.exmOne X.K cls (.ref CV) = some b ∧ _
  refine ⟨true, by rw [he]; exact wk.exV.exm (wk.up e), fun _ a na => ⟨e, he, ?_⟩, fun z => nomatch z⟩
  exact read_suite wk e a d X rfl _ _ H' rfl rfl Q rfl ww
end
end Rv

/-! ## RvLaw0 -/
/-! law: what its phases share. -/
namespace Rv
open PySem PySem.Spec PyProof.Rows L2 LamX RvL
/-- the contracts that law leans on -/
structure Pg (P : Program) (w : World) (K : PySem.W.Frag) (mg : Str → Option Value) (base : Heap) (c : Cs) : Prop where
  answer : Df P w K mg base (L2.CX P w) 4 "answer" ["way", "row"] (spBoth c)
  matters : Df P w K mg base (L2.CX P w) 4 "matters" ["way", "row"] (spBoth c)
  table_of : Df P w K mg base (L2.CX P w) 2 "table_of" ["way"] (spWB c)
  holds : Df P w K mg base (L2.CX P w) 2 "holds" ["way", "promise"] (spWP c)
  count_allowed : Df P w K mg base (L2.CX P w) 3 "count_allowed" ["way", "length"] (spWN c)
  power : Df P w K mg base (L2.CX P w) 3 "power" ["way", "length"] (spWN c)
  desk : ∃ (C fI : Addr) (fdI : FuncData), Mk K C fI ∧ FnOk P w K mg base (L2.CX P w) 2 fI fdI ["self", "way"] (spDesk c) ∧ Binds K fdI ["self", "way"] [] ∧ mg "Desk" = some (.ref C)
  write_row : Df P w K mg base (L2.CX P w) 3 "write_row" ["row"] (spRow c)
  parts_answer : Df P w K mg base (L2.CX P w) 5 "parts_answer" ["small", "row"] (spPA c)
  keeps : Df P w K mg base (L2.CX P w) 4 "keeps" ["table", "promise"] (spKeeps c)
  can_hold : Df P w K mg base (L2.CX P w) 2 "can_hold" ["wanted"] (spProms c)
  keepers : Df P w K mg base (L2.CX P w) 2 "keepers" ["wanted"] (spProms c)
  clashes : Df P w K mg base (L2.CX P w) 2 "clashes" ["wanted"] (spProms c)
  can_add : Df P w K mg base (L2.CX P w) 2 "can_add" ["wanted"] (spProms c)
  count_tables : Df P w K mg base (L2.CX P w) 2 "count_tables" ["wanted"] (spProms c)
  write_table : Df P w K mg base (L2.CX P w) 4 "write_table" ["table"] (spTabBad c)
  taken : Df P w K mg base CX0 1 "_law_taken" ["_law_row_here", "_law_many"] (spTaken K)
  pick : Df P w K mg base CX0 2 "_law_pick" ["_law_row_here", "_law_kinds"] (spPick K)
  ways : Df P w K mg base CX0 1 "_law_ways" [] spWaysL
  row : Df P w K mg base CX0 3 "_law_row" ["_law_row_here", "_law_most"] (spRowT K)
  table : Df P w K mg base CX0 3 "_law_table" ["_law_row_here"] (spTable1 K)
  voices : Df P w K mg base CX0 2 "_law_voices" ["_law_text"] spVoices
  as_table : Df P w K mg base CX0 3 "_law_as_table" ["_law_told"] spAsTable
/-! ### the lambdas' texts -/
def lamD : Expr → LamD
  | .Lambda p b sc _ => ⟨p, b, sc⟩
  | _ => ⟨{ posonlyargs := [], args := [], vararg := none, kwonlyargs := [], kw_defaults := [], kwarg := none, defaults := [] }, .Constant .none 0 ⟨0, 0, 0, 0⟩, defScope (.Pass ⟨0, 0, 0, 0⟩)⟩
/-- the lambdas that a statement of law lists -/
def lamsE : Expr → List Expr
  | .Call _ [.Call _ [_, .BinOp _ _ (.List es _) _] _ _] _ _ => es
  | .Call _ [.Call _ [_, .List es _] _ _] _ _ => es
  | _ => []
def lamsS : Stmt → List Expr
  | .Assign _ (.List es _) _ => es
  | .If (.Compare e _ _ _) _ _ _ => lamsE e
  | .Return (some (.Compare e _ _ _)) _ => lamsE e
  | _ => []
abbrev ls (i : Nat) : Stmt := (defBody s_law).getD i (.Pass ⟨0, 0, 0, 0⟩)
abbrev ll (i j : Nat) : LamD := lamD ((lamsS (ls i)).getD j (.Constant .none 0 ⟨0, 0, 0, 0⟩))
/-! ### law's context -/
abbrev LX (P : Program) (w : World) (K : PySem.W.Frag) (mg : Str → Option Value) (base : Heap) (f cL : Addr) (A : Around) (outer : List Env) (s : Shared) (H0 : Hp) (E : XK) : Cx := (cxOf CX0 P w K mg base N_law "law" (defScope s_law) f (.ref cL) A outer s H0 E).nox
abbrev lqual : Str := (envOfC "law" (defScope s_law) 0 0 .none).qual ++ "<lambda>"
abbrev LT (Pt : Addr) : List (Addr × Str) := [(Pt, lqual)]
/-- what a phase makes of I: I' -/
def Ph (X : Cx) (st : Stmt) (I I' : L2.St → Hp → Prop) : Prop := ∃ t, PS X st t ∧ ∀ (D : Ends) σ H, I σ H → t { D with nx := I' } σ H
def Phs (X : Cx) (sts : List Stmt) (I : L2.St → Hp → Prop) (R : VK) : Prop := ∃ t, PSs X sts t ∧ ∀ (D : Ends) σ H, I σ H → D.rt = R → t D σ H
theorem ph_cons {X : Cx} {st : Stmt} {sts : List Stmt} {I I' : L2.St → Hp → Prop} {R : VK} (h1 : Ph X st I I') (h2 : Phs X sts I' R) : Phs X (st :: sts) I R := by
  obtain ⟨t, ht, q⟩ := h1
  obtain ⟨u, hu, q2⟩ := h2
  exact ⟨_, pss_cut I' ht hu, fun D σ H i e => ⟨fun σ' H' i' => q2 D σ' H' i' e, q D σ H i⟩⟩
/-! ### what stays -/
def Xt (r : Addr) (H H' : Hp) : Prop := ∀ b o, b ≠ r → H b = some o → (∀ ps, o ≠ .tbl ps) → H' b = some o
theorem Xt.refl (r : Addr) (H : Hp) : Xt r H H := fun _ _ _ e _ => e
theorem Xt.trans {r : Addr} {H H1 H2 : Hp} (a : Xt r H H1) (b : Xt r H1 H2) : Xt r H H2 := fun x o n e z => b x o n (a x o n e z) z
theorem Xt.sb {r : Addr} {H H1 : Hp} (a : SB r H H1) : Xt r H H1 := fun x o n e _ => a x o n e
theorem Xt.same {r : Addr} {H H1 : Hp} (a : Same H H1) : Xt r H H1 := fun x o _ e _ => a x o e
theorem Xt.ext {r : Addr} {H H1 : Hp} (a : ExtN H H1) : Xt r H H1 := fun x o _ e z => a x o e z
theorem lrow_ext {K : PySem.W.Frag} {a r : Addr} {ns : List Int} {H H' : Hp} (e : ExtN H H') (l : LRow K a ns r H) : LRow K a ns r H' := by
  obtain ⟨p, q, x, h0, h1, h2⟩ := l
  refine ⟨p, q, x, h0, e _ _ h1 (fun ps z => by cases z), ?_⟩
  rcases h2 with (h2 | ⟨u, h2⟩) | h2
  · exact .inl (.inl (e _ _ h2 fun ps z => by cases z))
  · exact .inl (.inr ⟨u, e _ _ h2 fun ps z => by cases z⟩)
  · exact .inr h2
theorem tabs_sb {K : PySem.W.Frag} {T : List (Addr × Str)} {a r : Addr} {ns : List Int} {H H' : Hp} (l : LRow K a ns r H) (s : SB r H H') (t : Tabs T H) : Tabs T H' := fun p hp => by
  obtain ⟨_, _, _, _, h1, _⟩ := l
  obtain ⟨ps, a1, a2, a3⟩ := t p hp
  refine ⟨ps, s _ _ (fun z => by rw [z, h1] at a1; cases a1) a1, a2, fun p' cv hcv => ?_⟩
  obtain ⟨c0, e1, e2⟩ := a3 p' cv hcv
  exact ⟨c0, e1, s _ _ (fun z => by rw [z, h1] at e2; cases e2) e2⟩
/-- a value that stays: what it is told by its address is not the row's -/
def KdN (r : Addr) (H : Hp) (v : V) (t : String) : Prop := Kd H v t ∧ v ≠ .ref r
theorem KdN.xt {r : Addr} {H H' : Hp} {v : V} {t : String} (x : Xt r H H') (k : KdN r H v t) : KdN r H' v t := by
  obtain ⟨k, n⟩ := k
  refine ⟨?_, n⟩
  cases k with
  | non => exact .non
  | bl b => exact .bl b
  | int i => exact .int i
  | str s => exact .str s
  | lst e => exact .lst (x _ _ (fun z => n (by rw [z])) e fun ps z => by cases z)
  | tup e => exact .tup (x _ _ (fun z => n (by rw [z])) e fun ps z => by cases z)
/-- what law has from its second statement on -/
structure B2 (K : PySem.W.Frag) (Pt a : Addr) (ns : List Int) (H : Hp) (r : Addr) (wy : Str) (bs : List Bool) (D : Addr) : Prop where
  row : LRow K a ns r H
  tabs : Tabs (LT Pt) H
  way : wy ∈ wayS
  t1 : 1 ≤ bs.length
  t8 : bs.length ≤ 8
  told : ∃ kvs, H D = some (.dK kvs) ∧ ToldB kvs
section
variable {K : PySem.W.Frag} {Pt a r D : Addr} {ns : List Int} {H H' : Hp} {wy : Str} {bs : List Bool}
theorem B2.xt (b : B2 K Pt a ns H r wy bs D) (x : Xt r H H') (l : LRow K a ns r H') (t : Tabs (LT Pt) H') : B2 K Pt a ns H' r wy bs D := by
  obtain ⟨b1, b2, b3, b4, b5, kvs, e, k⟩ := b
  refine ⟨l, t, b3, b4, b5, kvs, x _ _ (fun z => ?_) e (fun ps z => by cases z), k⟩
  obtain ⟨_, _, _, _, h1, _⟩ := b1
  rw [z, h1] at e
  cases e
theorem B2.same (b : B2 K Pt a ns H r wy bs D) (s : Same H H') : B2 K Pt a ns H' r wy bs D := b.xt (.same s) (b.row.same s) (b.tabs.ext s)
theorem B2.sb (b : B2 K Pt a ns H r wy bs D) (s : SB r H H') (l : LRow K a ns r H') : B2 K Pt a ns H' r wy bs D := b.xt (.sb s) l (tabs_sb b.row s b.tabs)
theorem B2.ext (b : B2 K Pt a ns H r wy bs D) (e : ExtN H H') (t : Tabs (LT Pt) H') : B2 K Pt a ns H' r wy bs D := b.xt (.ext e) (lrow_ext e b.row) t
end
theorem way_in : ∀ wy ∈ wayS, strIn (.str wy) WAY = true := by decide +kernel
section
variable {X : Cx} {c : Cs} {CV : Addr}
/-- _law_wrong(e) -/
theorem pe_wrong {e : Expr} {ta : TA} {p pos : Pos} (D : DefAt X.K X.mg "_law_wrong" s_l_wrong ["_law_work"]) (M : Md X.prog X.K X.mg c) (wk : Wk X.K X.mg c CV) (hr : Room 8 X.A) (ha : PA X [e] ta) (hg : Gl X "_law_wrong" := by rfl)
    (hst : starEach [e] X.env = (false, eval e X.env) :: starEach [] X.env := by rfl) (hpl : (backTo pos (starEach [] X.env)).any (·.1) = false := by rfl) : PE X (.Call (.Name "_law_wrong" p) [e] [] pos) (tHand X 6 (TTw c) ta) := by
  obtain ⟨g, fd, F, gm, b⟩ := D.ex
  obtain ⟨oc, od, kV, doc, pm, an, cdv, ct, osl, rfl, l, cc⟩ := F.ex
  exact pe_hand hg gm F.kp l cc b sc_l_wrong rfl (.inl rfl) (wrong_gives M wk) hr ha (by decide) (by decide) (by decide) hst hpl
end
theorem wish0 {c : Cs} {Q : VK} {H : Hp} (e : Ec) (hi : e.ix = false) (q : ∀ H2, Same H H2 → Q (.str e.txt) H2) : WishT c Q (.ref (c.at e)) none H := .inl ⟨e, hi, rfl, rfl, q⟩
theorem wishX {c : Cs} {Q : VK} {H : Hp} (e : Ec) {d : Addr} {v : V} (hi : e.ix = true) (hd : H d = some (ixD v)) (q : ∀ H2 p, Same H H2 → H p = none → H2 p = some (.tup [.str e.txt, v]) → Q (.ref p) H2) : WishT c Q (.ref (c.at e)) (some d) H := .inr ⟨e, d, v, hi, rfl, rfl, hd, q⟩
end Rv

/-! ## RvLaw1 -/
/-! law's lambdas. Printed by gen_law1.py. -/
namespace Rv
open PySem PySem.Spec PyProof.Rows L2 LamX RvL
structure Lw (P : Program) (w : World) (K : PySem.W.Frag) (mg : Str → Option Value) (base : Heap) (c : Cs) (CV cL Pt : Addr) : Prop where
  M : Md P K mg c
  G : Pg P w K mg base c
  D : DefAt K mg "_law_wrong" s_l_wrong ["_law_work"]
  k : Wk K mg c CV
  TB : TabB base mg cL Pt
section
variable {P : Program} {w : World} {K : PySem.W.Frag} {mg : Str → Option Value} {base : Heap} {c : Cs} {CV cL Pt f : Addr} {A : Around} {outer : List Env} {s : Shared} {H0 : Hp} {E : XK}
theorem pe_l {d : LamD} {pos : Pos} (L : Lw P w K mg base c CV cL Pt) (ok : LamOk N_law (defScope s_law) d) (B : LamB d) : PE (LX P w K mg base f cL A outer s H0 E) (.Lambda d.params d.body d.scope pos) (tLamE (LX P w K mg base f cL A outer s H0 E).env (LT Pt) d) :=
  pe_lam (T := LT Pt) (c := cL) (P := Pt) ok B L.TB rfl (List.mem_singleton.mpr rfl) fun p hp _ => by
    cases List.mem_singleton.mp hp
    rfl
/-- what goes out of a lambda -/
abbrev WL (E : XK) : WX := fun cls d _ H => E cls d H
/-- a lambda's wish, an error without an index -/
theorem hand0 {X : Cx} {Q : VK} {σ : L2.St} {H : Hp} {f : Addr} (e : Ec) (lp : LamP X 6) (lat : LamAt X.env H lp.d f) (hi : e.ix = false) (body : ∀ (E : XK) (Qn : VK), (∀ H', Same H H' → E (.ref (c.at e)) none H') → lp.t E σ H Qn) (q : ∀ H2, Same H H2 → Q (.str e.txt) H2) :
    ∃ (l : LamP X 6) (f' : Addr), [V.ref f] = [V.ref f'] ∧ LamAt X.env H l.d f' ∧ TTw c (fun E H' Q' => LamAt X.env H' l.d f' ∧ l.t E σ H' Q') H Q :=
  ⟨lp, f, rfl, lat, fun E Qn hE => ⟨lat, body E Qn fun H' s => hE _ _ _ (wish0 e hi fun H2 s2 => q H2 (s.trans s2))⟩⟩
/-- .. with an index -/
theorem handX {X : Cx} {Q : VK} {σ : L2.St} {H : Hp} {f : Addr} {due : V} (e : Ec) (lp : LamP X 6) (lat : LamAt X.env H lp.d f) (hi : e.ix = true) (body : ∀ (E : XK) (Qn : VK), (∀ H', Same H H' → IxW (c.at e) due E H') → lp.t E σ H Qn)
    (q : ∀ H2 p, Same H H2 → H2 p = some (.tup [.str e.txt, due]) → Q (.ref p) H2) :
    ∃ (l : LamP X 6) (f' : Addr), [V.ref f] = [V.ref f'] ∧ LamAt X.env H l.d f' ∧ TTw c (fun E H' Q' => LamAt X.env H' l.d f' ∧ l.t E σ H' Q') H Q :=
  ⟨lp, f, rfl, lat, fun E Qn hE => ⟨lat, body E Qn fun H' s d hd => hE _ _ _ (wishX e hi upd_same fun H2 p s2 _ ep => q H2 p (s.trans ((sm_upd hd).trans s2)) ep)⟩⟩
theorem lk_3_0 : LamOk N_law (defScope s_law) (ll 3 0) := ⟨rfl, rfl, rfl, by decide +kernel, by decide +kernel⟩
theorem lb_3_0 : LamB (ll 3 0) := .none rfl rfl fun _ _ _ _ _ _ => rfl
def lp_3_0 (L : Lw P w K mg base c CV cL Pt) : LamP (LX P w K mg base f cL A outer s H0 E) 6 where
  d := ll 3 0
  ok := lk_3_0
  b := lb_3_0
  t := fun E => tCallS (spBoth c) (WE (WL E)) (tCons (tVar 5) (tCons (tC .non) tNil))
  run := fun A outer s H E f c' hr => Df.peS L.G.answer (hr.mono (by decide)) (takes_of rfl rfl rfl rfl) (pa_cons (pv 5) (pa_cons pe_non pa_nil))
theorem lk_3_1 : LamOk N_law (defScope s_law) (ll 3 1) := ⟨rfl, rfl, rfl, by decide +kernel, by decide +kernel⟩
theorem lb_3_1 : LamB (ll 3 1) := .one "_law_a" _ _ rfl rfl rfl fun _ _ _ _ _ _ _ => ⟨_, rfl, fun _ => rfl⟩
def lp_3_1 (L : Lw P w K mg base c CV cL Pt) : LamP (LX P w K mg base f cL A outer s H0 E) 6 where
  d := ll 3 1
  ok := lk_3_1
  b := lb_3_1
  t := fun E => tCallS (spBoth c) (WE (WL E)) (tCons (tVar 5) (tCons (tC .non) tNil))
  run := fun A outer s H E f c' hr => Df.peS L.G.matters (hr.mono (by decide)) (takes_of rfl rfl rfl rfl) (pa_cons (pv 5) (pa_cons pe_non pa_nil))
theorem lk_3_2 : LamOk N_law (defScope s_law) (ll 3 2) := ⟨rfl, rfl, rfl, by decide +kernel, by decide +kernel⟩
theorem lb_3_2 : LamB (ll 3 2) := .one "_law_b" _ _ rfl rfl rfl fun _ _ _ _ _ _ _ => ⟨_, rfl, fun _ => rfl⟩
def lp_3_2 (L : Lw P w K mg base c CV cL Pt) : LamP (LX P w K mg base f cL A outer s H0 E) 6 where
  d := ll 3 2
  ok := lk_3_2
  b := lb_3_2
  t := fun E => tCallS (spWB c) (WE (WL E)) (tCons (tVar 5) tNil)
  run := fun A outer s H E f c' hr => Df.peS L.G.table_of (hr.mono (by decide)) (takes_of rfl rfl rfl rfl) (pa_cons (pv 5) pa_nil)
theorem lk_3_3 : LamOk N_law (defScope s_law) (ll 3 3) := ⟨rfl, rfl, rfl, by decide +kernel, by decide +kernel⟩
theorem lb_3_3 : LamB (ll 3 3) := .one "_law_c" _ _ rfl rfl rfl fun _ _ _ _ _ _ _ => ⟨_, rfl, fun _ => rfl⟩
def lp_3_3 (L : Lw P w K mg base c CV cL Pt) : LamP (LX P w K mg base f cL A outer s H0 E) 6 where
  d := ll 3 3
  ok := lk_3_3
  b := lb_3_3
  t := fun E => tCallS (spWP c) (WE (WL E)) (tCons (tVar 5) (tCons (tC .non) tNil))
  run := fun A outer s H E f c' hr => Df.peS L.G.holds (hr.mono (by decide)) (takes_of rfl rfl rfl rfl) (pa_cons (pv 5) (pa_cons pe_non pa_nil))
theorem lk_3_4 : LamOk N_law (defScope s_law) (ll 3 4) := ⟨rfl, rfl, rfl, by decide +kernel, by decide +kernel⟩
theorem lb_3_4 : LamB (ll 3 4) := .one "_law_d" _ _ rfl rfl rfl fun _ _ _ _ _ _ _ => ⟨_, rfl, fun _ => rfl⟩
def lp_3_4 (L : Lw P w K mg base c CV cL Pt) : LamP (LX P w K mg base f cL A outer s H0 E) 6 where
  d := ll 3 4
  ok := lk_3_4
  b := lb_3_4
  t := fun E => tCallS (spWN c) (WE (WL E)) (tCons (tVar 5) (tCons (tC .non) tNil))
  run := fun A outer s H E f c' hr => Df.peS L.G.count_allowed (hr.mono (by decide)) (takes_of rfl rfl rfl rfl) (pa_cons (pv 5) (pa_cons pe_non pa_nil))
theorem lk_4_0 : LamOk N_law (defScope s_law) (ll 4 0) := ⟨rfl, rfl, rfl, by decide +kernel, by decide +kernel⟩
theorem lb_4_0 : LamB (ll 4 0) := .one "_law_e" _ _ rfl rfl rfl fun _ _ _ _ _ _ _ => ⟨_, rfl, fun _ => rfl⟩
def lp_4_0 (L : Lw P w K mg base c CV cL Pt) : LamP (LX P w K mg base f cL A outer s H0 E) 6 where
  d := ll 4 0
  ok := lk_4_0
  b := lb_4_0
  t := fun E => tCallS (spWN c) (WE (WL E)) (tCons (tVar 5) (tCons (tC .non) tNil))
  run := fun A outer s H E f c' hr => Df.peS L.G.power (hr.mono (by decide)) (takes_of rfl rfl rfl rfl) (pa_cons (pv 5) (pa_cons pe_non pa_nil))
theorem lk_4_1 : LamOk N_law (defScope s_law) (ll 4 1) := ⟨rfl, rfl, rfl, by decide +kernel, by decide +kernel⟩
theorem lb_4_1 : LamB (ll 4 1) := .one "_law_f" _ _ rfl rfl rfl fun _ _ _ _ _ _ _ => ⟨_, rfl, fun _ => rfl⟩
def lp_4_1 (L : Lw P w K mg base c CV cL Pt) (C fI : Addr) (fdI : FuncData) (h : Mk K C fI ∧ FnOk P w K mg base (L2.CX P w) 2 fI fdI ["self", "way"] (spDesk c) ∧ Binds K fdI ["self", "way"] [] ∧ mg "Desk" = some (.ref C)) : LamP (LX P w K mg base f cL A outer s H0 E) 6 where
  d := ll 4 1
  ok := lk_4_1
  b := lb_4_1
  t := fun E => tMake C (spDesk c) [] E (tCons (tVar 5) tNil)
  run := fun A outer s H E f c' hr => pe_make h.1 h.2.1 (hr.mono (by decide)) rfl h.2.2.2 h.2.2.1 .nil (passes_call (takes_of rfl rfl rfl rfl) fun _ _ _ _ x => x) (pa_cons (pv 5) pa_nil)
theorem lk_9_0 : LamOk N_law (defScope s_law) (ll 9 0) := ⟨rfl, rfl, rfl, by decide +kernel, by decide +kernel⟩
theorem lb_9_0 : LamB (ll 9 0) := .none rfl rfl fun _ _ _ _ _ _ => rfl
def lp_9_0 (L : Lw P w K mg base c CV cL Pt) : LamP (LX P w K mg base f cL A outer s H0 E) 6 where
  d := ll 9 0
  ok := lk_9_0
  b := lb_9_0
  t := fun E => tCallS (spBoth c) (WE (WL E)) (tCons (tVar 2) (tCons (tVar 10) tNil))
  run := fun A outer s H E f c' hr => Df.peS L.G.answer (hr.mono (by decide)) (takes_of rfl rfl rfl rfl) (pa_cons (pv 2) (pa_cons (pv 10) pa_nil))
theorem lk_9_1 : LamOk N_law (defScope s_law) (ll 9 1) := ⟨rfl, rfl, rfl, by decide +kernel, by decide +kernel⟩
theorem lb_9_1 : LamB (ll 9 1) := .one "_law_a" _ _ rfl rfl rfl fun _ _ _ _ _ _ _ => ⟨_, rfl, fun _ => rfl⟩
def lp_9_1 (L : Lw P w K mg base c CV cL Pt) : LamP (LX P w K mg base f cL A outer s H0 E) 6 where
  d := ll 9 1
  ok := lk_9_1
  b := lb_9_1
  t := fun E => tCallS (spBoth c) (WE (WL E)) (tCons (tVar 2) (tCons (tVar 10) tNil))
  run := fun A outer s H E f c' hr => Df.peS L.G.matters (hr.mono (by decide)) (takes_of rfl rfl rfl rfl) (pa_cons (pv 2) (pa_cons (pv 10) pa_nil))
theorem lk_9_2 : LamOk N_law (defScope s_law) (ll 9 2) := ⟨rfl, rfl, rfl, by decide +kernel, by decide +kernel⟩
theorem lb_9_2 : LamB (ll 9 2) := .one "_law_b" _ _ rfl rfl rfl fun _ _ _ _ _ _ _ => ⟨_, rfl, fun _ => rfl⟩
def lp_9_2 (L : Lw P w K mg base c CV cL Pt) : LamP (LX P w K mg base f cL A outer s H0 E) 6 where
  d := ll 9 2
  ok := lk_9_2
  b := lb_9_2
  t := fun E => tCallS (spRow c) (WE (WL E)) (tCons (tVar 10) tNil)
  run := fun A outer s H E f c' hr => Df.peS L.G.write_row (hr.mono (by decide)) (takes_of rfl rfl rfl rfl) (pa_cons (pv 10) pa_nil)
theorem lk_9_3 : LamOk N_law (defScope s_law) (ll 9 3) := ⟨rfl, rfl, rfl, by decide +kernel, by decide +kernel⟩
theorem lb_9_3 : LamB (ll 9 3) := .one "_law_c" _ _ rfl rfl rfl fun _ _ _ _ _ _ _ => ⟨_, rfl, fun _ => rfl⟩
def lp_9_3 (L : Lw P w K mg base c CV cL Pt) : LamP (LX P w K mg base f cL A outer s H0 E) 6 where
  d := ll 9 3
  ok := lk_9_3
  b := lb_9_3
  t := fun E => tCallS (spPA c) (WE (WL E)) (tCons (tVar 12) (tCons (tVar 10) tNil))
  run := fun A outer s H E f c' hr => Df.peS L.G.parts_answer (hr.mono (by decide)) (takes_of rfl rfl rfl rfl) (pa_cons (pv 12) (pa_cons (pv 10) pa_nil))
theorem lk_12_0 : LamOk N_law (defScope s_law) (ll 12 0) := ⟨rfl, rfl, rfl, by decide +kernel, by decide +kernel⟩
theorem lb_12_0 : LamB (ll 12 0) := .none rfl rfl fun _ _ _ _ _ _ => rfl
def lp_12_0 (L : Lw P w K mg base c CV cL Pt) : LamP (LX P w K mg base f cL A outer s H0 E) 6 where
  d := ll 12 0
  ok := lk_12_0
  b := lb_12_0
  t := fun E => tCallS (spWP c) (WE (WL E)) (tCons (tVar 2) (tCons (tVar 13) tNil))
  run := fun A outer s H E f c' hr => Df.peS L.G.holds (hr.mono (by decide)) (takes_of rfl rfl rfl rfl) (pa_cons (pv 2) (pa_cons (pv 13) pa_nil))
theorem lk_12_1 : LamOk N_law (defScope s_law) (ll 12 1) := ⟨rfl, rfl, rfl, by decide +kernel, by decide +kernel⟩
theorem lb_12_1 : LamB (ll 12 1) := .one "_law_a" _ _ rfl rfl rfl fun _ _ _ _ _ _ _ => ⟨_, rfl, fun _ => rfl⟩
def lp_12_1 (L : Lw P w K mg base c CV cL Pt) : LamP (LX P w K mg base f cL A outer s H0 E) 6 where
  d := ll 12 1
  ok := lk_12_1
  b := lb_12_1
  t := fun E => tCallS (spKeeps c) (WE (WL E)) (tCons (tCall spAsTable [] E0 (tCons (tVar 4) tNil)) (tCons (tVar 13) tNil))
  run := fun A outer s H E f c' hr => Df.peS L.G.keeps (hr.mono (by decide)) (takes_of rfl rfl rfl rfl) (pa_cons (Df.pe L.G.as_table (hr.mono (by decide)) (pa_cons (pv 4) pa_nil)) (pa_cons (pv 13) pa_nil))
theorem lk_14_0 : LamOk N_law (defScope s_law) (ll 14 0) := ⟨rfl, rfl, rfl, by decide +kernel, by decide +kernel⟩
theorem lb_14_0 : LamB (ll 14 0) := .none rfl rfl fun _ _ _ _ _ _ => rfl
def lp_14_0 (L : Lw P w K mg base c CV cL Pt) : LamP (LX P w K mg base f cL A outer s H0 E) 6 where
  d := ll 14 0
  ok := lk_14_0
  b := lb_14_0
  t := fun E => tCallS (spProms c) (WE (WL E)) (tCons (tVar 14) tNil)
  run := fun A outer s H E f c' hr => Df.peS L.G.can_hold (hr.mono (by decide)) (takes_of rfl rfl rfl rfl) (pa_cons (pv 14) pa_nil)
theorem lk_14_1 : LamOk N_law (defScope s_law) (ll 14 1) := ⟨rfl, rfl, rfl, by decide +kernel, by decide +kernel⟩
theorem lb_14_1 : LamB (ll 14 1) := .one "_law_a" _ _ rfl rfl rfl fun _ _ _ _ _ _ _ => ⟨_, rfl, fun _ => rfl⟩
def lp_14_1 (L : Lw P w K mg base c CV cL Pt) : LamP (LX P w K mg base f cL A outer s H0 E) 6 where
  d := ll 14 1
  ok := lk_14_1
  b := lb_14_1
  t := fun E => tCallS (spProms c) (WE (WL E)) (tCons (tVar 14) tNil)
  run := fun A outer s H E f c' hr => Df.peS L.G.keepers (hr.mono (by decide)) (takes_of rfl rfl rfl rfl) (pa_cons (pv 14) pa_nil)
theorem lk_14_2 : LamOk N_law (defScope s_law) (ll 14 2) := ⟨rfl, rfl, rfl, by decide +kernel, by decide +kernel⟩
theorem lb_14_2 : LamB (ll 14 2) := .one "_law_b" _ _ rfl rfl rfl fun _ _ _ _ _ _ _ => ⟨_, rfl, fun _ => rfl⟩
def lp_14_2 (L : Lw P w K mg base c CV cL Pt) : LamP (LX P w K mg base f cL A outer s H0 E) 6 where
  d := ll 14 2
  ok := lk_14_2
  b := lb_14_2
  t := fun E => tCallS (spProms c) (WE (WL E)) (tCons (tVar 14) tNil)
  run := fun A outer s H E f c' hr => Df.peS L.G.clashes (hr.mono (by decide)) (takes_of rfl rfl rfl rfl) (pa_cons (pv 14) pa_nil)
theorem lk_14_3 : LamOk N_law (defScope s_law) (ll 14 3) := ⟨rfl, rfl, rfl, by decide +kernel, by decide +kernel⟩
theorem lb_14_3 : LamB (ll 14 3) := .one "_law_c" _ _ rfl rfl rfl fun _ _ _ _ _ _ _ => ⟨_, rfl, fun _ => rfl⟩
def lp_14_3 (L : Lw P w K mg base c CV cL Pt) : LamP (LX P w K mg base f cL A outer s H0 E) 6 where
  d := ll 14 3
  ok := lk_14_3
  b := lb_14_3
  t := fun E => tCallS (spProms c) (WE (WL E)) (tCons (tVar 14) tNil)
  run := fun A outer s H E f c' hr => Df.peS L.G.can_add (hr.mono (by decide)) (takes_of rfl rfl rfl rfl) (pa_cons (pv 14) pa_nil)
theorem lk_14_4 : LamOk N_law (defScope s_law) (ll 14 4) := ⟨rfl, rfl, rfl, by decide +kernel, by decide +kernel⟩
theorem lb_14_4 : LamB (ll 14 4) := .one "_law_d" _ _ rfl rfl rfl fun _ _ _ _ _ _ _ => ⟨_, rfl, fun _ => rfl⟩
def lp_14_4 (L : Lw P w K mg base c CV cL Pt) : LamP (LX P w K mg base f cL A outer s H0 E) 6 where
  d := ll 14 4
  ok := lk_14_4
  b := lb_14_4
  t := fun E => tCallS (spProms c) (WE (WL E)) (tCons (tVar 14) tNil)
  run := fun A outer s H E f c' hr => Df.peS L.G.count_tables (hr.mono (by decide)) (takes_of rfl rfl rfl rfl) (pa_cons (pv 14) pa_nil)
theorem lk_17_0 : LamOk N_law (defScope s_law) (ll 17 0) := ⟨rfl, rfl, rfl, by decide +kernel, by decide +kernel⟩
theorem lb_17_0 : LamB (ll 17 0) := .none rfl rfl fun _ _ _ _ _ _ => rfl
def lp_17_0 (L : Lw P w K mg base c CV cL Pt) : LamP (LX P w K mg base f cL A outer s H0 E) 6 where
  d := ll 17 0
  ok := lk_17_0
  b := lb_17_0
  t := fun E => tCallS (spWN c) (WE (WL E)) (tCons (tVar 2) (tCons (tVar 15) tNil))
  run := fun A outer s H E f c' hr => Df.peS L.G.count_allowed (hr.mono (by decide)) (takes_of rfl rfl rfl rfl) (pa_cons (pv 2) (pa_cons (pv 15) pa_nil))
theorem lk_17_1 : LamOk N_law (defScope s_law) (ll 17 1) := ⟨rfl, rfl, rfl, by decide +kernel, by decide +kernel⟩
theorem lb_17_1 : LamB (ll 17 1) := .one "_law_a" _ _ rfl rfl rfl fun _ _ _ _ _ _ _ => ⟨_, rfl, fun _ => rfl⟩
def lp_17_1 (L : Lw P w K mg base c CV cL Pt) : LamP (LX P w K mg base f cL A outer s H0 E) 6 where
  d := ll 17 1
  ok := lk_17_1
  b := lb_17_1
  t := fun E => tCallS (spWN c) (WE (WL E)) (tCons (tVar 2) (tCons (tVar 15) tNil))
  run := fun A outer s H E f c' hr => Df.peS L.G.power (hr.mono (by decide)) (takes_of rfl rfl rfl rfl) (pa_cons (pv 2) (pa_cons (pv 15) pa_nil))
theorem lk_21_0 : LamOk N_law (defScope s_law) (ll 21 0) := ⟨rfl, rfl, rfl, by decide +kernel, by decide +kernel⟩
theorem lb_21_0 : LamB (ll 21 0) := .none rfl rfl fun _ _ _ _ _ _ => rfl
def lp_21_0 (L : Lw P w K mg base c CV cL Pt) : LamP (LX P w K mg base f cL A outer s H0 E) 6 where
  d := ll 21 0
  ok := lk_21_0
  b := lb_21_0
  t := fun E => tCallS (spKeeps c) (WE (WL E)) (tCons (tVar 10) (tCons (tC .non) tNil))
  run := fun A outer s H E f c' hr => Df.peS L.G.keeps (hr.mono (by decide)) (takes_of rfl rfl rfl rfl) (pa_cons (pv 10) (pa_cons pe_non pa_nil))
theorem lk_21_1 : LamOk N_law (defScope s_law) (ll 21 1) := ⟨rfl, rfl, rfl, by decide +kernel, by decide +kernel⟩
theorem lb_21_1 : LamB (ll 21 1) := .one "_law_a" _ _ rfl rfl rfl fun _ _ _ _ _ _ _ => ⟨_, rfl, fun _ => rfl⟩
def lp_21_1 (L : Lw P w K mg base c CV cL Pt) : LamP (LX P w K mg base f cL A outer s H0 E) 6 where
  d := ll 21 1
  ok := lk_21_1
  b := lb_21_1
  t := fun E => tCallS (spTabBad c) (WE (WL E)) (tCons (tVar 10) tNil)
  run := fun A outer s H E f c' hr => Df.peS L.G.write_table (hr.mono (by decide)) (takes_of rfl rfl rfl rfl) (pa_cons (pv 10) pa_nil)
end
end Rv

/-! ## RvLaw2 -/
/-! law's first phases: what is drawn; the bad way. -/
namespace Rv
open PySem PySem.Spec PyProof.Rows L2 LamX RvL
abbrev f19 (x0 x1 x2 x3 x4 x5 x6 x7 x8 x9 x10 x11 x12 x13 x14 x15 x16 x17 x18 : Option V) : L2.St := [x0, x1, x2, x3, x4, x5, x6, x7, x8, x9, x10, x11, x12, x13, x14, x15, x16, x17, x18]
theorem lamAt_xt {K : PySem.W.Frag} {env : Env} {a r f : Addr} {ns : List Int} {d : LamD} {H H' : Hp} (l : LRow K a ns r H) (x : Xt r H H') (h : LamAt env H d f) : LamAt env H' d f := by
  obtain ⟨_, _, _, _, h1, _⟩ := l
  obtain ⟨c', dV, h2, h3, h4⟩ := h
  refine ⟨c', dV, x _ _ (fun z => ?_) h2 lamO_ne, x _ _ (fun z => ?_) h3 codeO_ne, ?_⟩
  · rw [z, h1] at h2
    unfold LamO at h2
    cases h2
  · rw [z, h1] at h3
    unfold CodeO at h3
    cases h3
  · rcases h4 with h4 | ⟨h4, t0, h5, h6⟩
    · exact .inl h4
    · refine .inr ⟨h4, t0, h5, x _ _ (fun z => ?_) h6 fun ps z => by cases z⟩
      rw [z, h1] at h6
      cases h6
section
variable {P : Program} {w : World} {K : PySem.W.Frag} {mg : Str → Option Value} {base : Heap} {c : Cs} {CV cL Pt f : Addr} {A : Around} {outer : List Env} {s : Shared} {H0 : Hp} {E : XK} {a : Addr} {ns : List Int}
def I0 (K : PySem.W.Frag) (Pt a : Addr) (ns : List Int) (σ : L2.St) (H : Hp) : Prop := σ = L2.start N_law [.ref a] ∧ SqL K H a (ns.map V.int) ∧ Tabs (LT Pt) H
def I1 (K : PySem.W.Frag) (Pt a : Addr) (ns : List Int) (σ : L2.St) (H : Hp) : Prop := ∃ r, LRow K a ns r H ∧ Tabs (LT Pt) H ∧ σ = f19 (some (.ref a)) (some (.ref r)) none none none none none none none none none none none none none none none none none
def I2 (K : PySem.W.Frag) (Pt a : Addr) (ns : List Int) (σ : L2.St) (H : Hp) : Prop := ∃ r wy bs D, B2 K Pt a ns H r wy bs D ∧ ∃ y5 y6 y7 y8 y9 y10 y11 y12 y13 y14 y15 y16 y17 y18,
  σ = f19 (some (.ref a)) (some (.ref r)) (some (.str wy)) (some (tv bs)) (some (.ref D)) y5 y6 y7 y8 y9 y10 y11 y12 y13 y14 y15 y16 y17 y18
theorem ph0 : Ph (LX P w K mg base f cL A outer s H0 E) (ls 0) (I0 K Pt a ns) (I1 K Pt a ns) := by
  refine ⟨_, ps_set (i := 1) sc_law.nd rfl (.inl rfl) (pe_lst (pa_cons (pv 0) (pa_cons pe_int (pa_cons pe_int (pa_cons pe_int pa_nil))))), fun D σ H i => ?_⟩
  obtain ⟨rfl, hA, hT⟩ := i
  refine ⟨.ref a, rfl, (show 4 ≤ sizeLine by decide), fun p np => ?_⟩
  have s1 : Same H (upd H p (.lst [.ref a, .int 0, .int 15610, .int 0])) := sm_upd np
  exact ⟨p, ⟨0, 15610, 0, Int.le_refl _, upd_same, s1.seq hA⟩, hT.ext s1, rfl⟩
theorem ph1 (L : Lw P w K mg base c CV cL Pt) (hr : Room 8 (LX P w K mg base f cL A outer s H0 E).A) (hns : ns.length ≤ 1000) : Ph (LX P w K mg base f cL A outer s H0 E) (ls 1) (I1 K Pt a ns) (I2 K Pt a ns) := by
  have hr2 := hr.mono (j := 2) (by decide)
  have hr3 := hr.mono (j := 3) (by decide)
  refine ⟨_, ps_asg (pe_tup (pa_cons (Df.pe L.G.pick hr2 (pa_cons (pv 1) (pa_cons (Df.pe0 L.G.ways (hr.mono (by decide))) pa_nil))) (pa_cons (Df.pe L.G.row hr3 (pa_cons (pv 1) (pa_cons pe_int pa_nil))) (pa_cons (Df.pe L.G.table hr3 (pa_cons (pv 1) pa_nil)) pa_nil))))
    (pg_tup rfl (pgs_cons (pg_name (i := 2) sc_law.nd rfl (.inr rfl)) (pgs_cons (pg_name (i := 3) sc_law.nd rfl (.inl rfl)) (pgs_cons (pg_name (i := 4) sc_law.nd rfl (.inr rfl)) pgs_nil)))), fun D σ H i => ?_⟩
  obtain ⟨r, hR, hT, rfl⟩ := i
  refine ⟨.ref r, rfl, rfl, fun l nl => ?_⟩
  have s1 : Same H (upd H l (.lst WAY)) := sm_upd nl
  refine ⟨r, a, l, ns, WAY, rfl, upd_same, hR.ne nl, by decide, by decide, hns, hR.same s1, fun i y H1 hy sb1 hR1 => ?_⟩
  obtain ⟨wy, rfl, hw⟩ := way_of hy
  have t1 := tabs_sb (hR.same s1) sb1 (hT.ext s1)
  refine ⟨.ref r, rfl, r, a, 8, ns, rfl, by decide, by decide, hns, hR1, fun bs H2 b1 b8 sb2 hR2 => ?_⟩
  have t2 := tabs_sb hR1 sb2 t1
  refine ⟨.ref r, rfl, r, a, ns, rfl, hns, hR2, fun H3 D' kvs sb3 hR3 eD told => ⟨(show 3 ≤ sizeLine by decide), fun p np => ?_⟩⟩
  have t3 := tabs_sb hR2 sb3 t2
  have s4 : Same H3 (upd H3 p (.tup [.str wy, tv bs, .ref D'])) := sm_upd np
  refine ⟨p, _, rfl, .inl (.inl upd_same), rfl, _, _, rfl, _, _, rfl, _, _, rfl, rfl, r, wy, bs, D', ⟨hR3.same s4, t3.ext s4, hw, b1, by omega, kvs, s4 _ _ eD, told⟩, _, _, _, _, _, _, _, _, _, _, _, _, _, _, rfl⟩
/-! ### a bad way -/
def BadW (r : Addr) (H : Hp) (v : V) : Prop := (∃ t, KdN r H v t) ∧ strIn v WAY = false
theorem BadW.xt {r : Addr} {H H' : Hp} {v : V} (x : Xt r H H') (h : BadW r H v) : BadW r H' v := ⟨h.1.imp fun _ k => k.xt x, h.2⟩
def I3 (K : PySem.W.Frag) (Pt a : Addr) (ns : List Int) (σ : L2.St) (H : Hp) : Prop := ∃ r wy bs D v, B2 K Pt a ns H r wy bs D ∧ BadW r H v ∧ ∃ y6 y7 y8 y9 y10 y11 y12 y13 y14 y15 y16 y17 y18,
  σ = f19 (some (.ref a)) (some (.ref r)) (some (.str wy)) (some (tv bs)) (some (.ref D)) (some v) y6 y7 y8 y9 y10 y11 y12 y13 y14 y15 y16 y17 y18
theorem not_row {v : V} {r : Addr} (h : ∀ p, v ≠ .ref p) : v ≠ .ref r := h r
theorem ph2 (L : Lw P w K mg base c CV cL Pt) (hr : Room 8 (LX P w K mg base f cL A outer s H0 E).A) (hns : ns.length ≤ 1000) : Ph (LX P w K mg base f cL A outer s H0 E) (ls 2) (I2 K Pt a ns) (I3 K Pt a ns) := by
  have hr2 := hr.mono (j := 2) (by decide)
  refine ⟨_, ps_set (i := 5) sc_law.nd rfl (.inr rfl) (Df.pe L.G.pick hr2 (pa_cons (pv 1) (pa_cons (pe_lst (pa_cons pe_non (pa_cons pe_str (pa_cons pe_str (pa_cons pe_str (pa_cons (pe_lst (pa_cons pe_str pa_nil)) (pa_cons (pe_tup (pa_cons pe_str pa_nil)) (pa_cons pe_int (pa_cons pe_bl (pa_cons pe_str (pa_cons pe_str pa_nil))))))))))) pa_nil))), fun D σ H i => ?_⟩
  obtain ⟨r, wy, bs, D', b, y5, y6, y7, y8, y9, y10, y11, y12, y13, y14, y15, y16, y17, y18, rfl⟩ := i
  refine ⟨.ref r, rfl, (show 1 ≤ sizeLine by decide), fun p1 n1 => ⟨(show 1 ≤ sizeLine by decide), fun p2 n2 => ⟨(show 10 ≤ sizeLine by decide), fun l nl => ?_⟩⟩⟩
  have s1 : Same H (upd H p1 (.lst [V.str (Str.ofString "first")])) := sm_upd n1
  have s2 : Same _ (upd (upd H p1 (.lst [V.str (Str.ofString "first")])) p2 (.tup [V.str (Str.ofString "first")])) := sm_upd n2
  have s3 : Same (upd (upd H p1 (.lst [V.str (Str.ofString "first")])) p2 (.tup [V.str (Str.ofString "first")])) (upd _ l (.lst [V.non, .str (Str.ofString ""), .str (Str.ofString "First"), .str (Str.ofString "first "), .ref p1, .ref p2, .int 5, .bl true, .str (Str.ofString "most"), .str (Str.ofString "deny")])) := sm_upd nl
  have bA := b.same s1
  have bB := bA.same s2
  have bC := bB.same s3
  refine ⟨r, a, l, ns, _, rfl, upd_same, bB.row.ne nl, (show 0 < 10 by decide), (show 10 ≤ 1000 by decide), hns, bC.row, fun i y H1 hy sb1 hR1 => ?_⟩
  refine ⟨r, wy, bs, D', y, bC.sb sb1 hR1, BadW.xt (.sb sb1) ?_, _, _, _, _, _, _, _, _, _, _, _, _, _, rfl⟩
  have hm := List.mem_of_getElem? hy
  simp only [List.mem_cons, List.not_mem_nil, or_false] at hm
  rcases hm with e | e | e | e | e | e | e | e | e | e <;> rw [e]
  · exact ⟨⟨_, .non, fun z => nomatch z⟩, by decide +kernel⟩
  · exact ⟨⟨_, .str _, fun z => nomatch z⟩, by decide +kernel⟩
  · exact ⟨⟨_, .str _, fun z => nomatch z⟩, by decide +kernel⟩
  · exact ⟨⟨_, .str _, fun z => nomatch z⟩, by decide +kernel⟩
  · exact ⟨⟨_, .lst (s3 _ _ (s2 _ _ upd_same)), fun z => b.row.ne n1 (V.ref.inj z)⟩, rfl⟩
  · exact ⟨⟨_, .tup (s3 _ _ upd_same), fun z => bA.row.ne n2 (V.ref.inj z)⟩, rfl⟩
  · exact ⟨⟨_, .int _, fun z => nomatch z⟩, by decide +kernel⟩
  · exact ⟨⟨_, .bl _, fun z => nomatch z⟩, by decide +kernel⟩
  · exact ⟨⟨_, .str _, fun z => nomatch z⟩, by decide +kernel⟩
  · exact ⟨⟨_, .str _, fun z => nomatch z⟩, by decide +kernel⟩
def I4 (env : Env) (K : PySem.W.Frag) (Pt a : Addr) (ns : List Int) (σ : L2.St) (H : Hp) : Prop := ∃ r wy bs D v l f0 f1 f2 f3 f4, B2 K Pt a ns H r wy bs D ∧ BadW r H v ∧ H l = some (.lst [.ref f0, .ref f1, .ref f2, .ref f3, .ref f4]) ∧ l ≠ r ∧
  LamAt env H (ll 3 0) f0 ∧ LamAt env H (ll 3 1) f1 ∧ LamAt env H (ll 3 2) f2 ∧ LamAt env H (ll 3 3) f3 ∧ LamAt env H (ll 3 4) f4 ∧ ∃ y7 y8 y9 y10 y11 y12 y13 y14 y15 y16 y17 y18,
  σ = f19 (some (.ref a)) (some (.ref r)) (some (.str wy)) (some (tv bs)) (some (.ref D)) (some v) (some (.ref l)) y7 y8 y9 y10 y11 y12 y13 y14 y15 y16 y17 y18
theorem ph3 (L : Lw P w K mg base c CV cL Pt) : Ph (LX P w K mg base f cL A outer s H0 E) (ls 3) (I3 K Pt a ns) (I4 (LX P w K mg base f cL A outer s H0 E).env K Pt a ns) := by
  refine ⟨_, ps_set (i := 6) sc_law.nd rfl (.inl rfl) (pe_lst (pa_cons (pe_l L lk_3_0 lb_3_0) (pa_cons (pe_l L lk_3_1 lb_3_1) (pa_cons (pe_l L lk_3_2 lb_3_2) (pa_cons (pe_l L lk_3_3 lb_3_3) (pa_cons (pe_l L lk_3_4 lb_3_4) pa_nil)))))), fun D σ H i => ?_⟩
  obtain ⟨r, wy, bs, D', v, b, bad, y6, y7, y8, y9, y10, y11, y12, y13, y14, y15, y16, y17, y18, rfl⟩ := i
  refine ⟨b.tabs, fun f0 H1 e1 t1 a0 => ⟨t1, fun f1 H2 e2 t2 a1 => ⟨t2, fun f2 H3 e3 t3 a2 => ⟨t3, fun f3 H4 e4 t4 a3 => ⟨t4, fun f4 H5 e5 t5 a4 => ⟨(show 5 ≤ sizeLine by decide), fun l nl => ?_⟩⟩⟩⟩⟩⟩
  have e25 := e2.trans (e3.trans (e4.trans e5))
  have e15 := e1.trans e25
  have b5 := b.ext e15 t5
  have s6 : Same H5 (upd H5 l (.lst [.ref f0, .ref f1, .ref f2, .ref f3, .ref f4])) := sm_upd nl
  have n6 := ExtN.of s6
  exact ⟨r, wy, bs, D', v, l, f0, f1, f2, f3, f4, b5.same s6, bad.xt ((Xt.ext e15).trans (.same s6)), upd_same, b5.row.ne nl, (a0.ext e25).ext n6, ((a1.ext (e3.trans (e4.trans e5)))).ext n6, (a2.ext (e4.trans e5)).ext n6, (a3.ext e5).ext n6, a4.ext n6, _, _, _, _, _, _, _, _, _, _, _, _, rfl⟩
theorem ph4 (L : Lw P w K mg base c CV cL Pt) (hr : Room 8 (LX P w K mg base f cL A outer s H0 E).A) (hns : ns.length ≤ 1000) : Ph (LX P w K mg base f cL A outer s H0 E) (ls 4) (I4 (LX P w K mg base f cL A outer s H0 E).env K Pt a ns) (I2 K Pt a ns) := by
  have hr2 := hr.mono (j := 2) (by decide)
  obtain ⟨Ck, fI, fdI, hk⟩ := L.G.desk
  refine ⟨_, ps_if (pt_cmpR op_ne (pe_wrong L.D L.M L.k hr (pa_cons (Df.pe L.G.pick hr2 (pa_cons (pv 1) (pa_cons (pe_op op_cat (pv 6) (pe_lst (pa_cons (pe_l L lk_4_0 lb_4_0) (pa_cons (pe_l L lk_4_1 lb_4_1) pa_nil)))) pa_nil))) pa_nil)) pe_str (nomark _)) (pss_one (ps_ret pe_bl)) pss_nil, fun D σ H i => ?_⟩
  obtain ⟨r, wy, bs, D', v, l, f0, f1, f2, f3, f4, b, bad, el, nlr, a0, a1, a2, a3, a4, y7, y8, y9, y10, y11, y12, y13, y14, y15, y16, y17, y18, rfl⟩ := i
  refine ⟨.ref r, rfl, .ref l, rfl, b.tabs, fun f5 H1 e1 t1 a5 => ⟨t1, fun f6 H2 e2 t2 a6 => ⟨(show 2 ≤ sizeLine by decide), fun l2 nl2 => ?_⟩⟩⟩
  have e12 := e1.trans e2
  have b2 := b.ext e12 t2
  have s3 : Same H2 (upd H2 l2 (.lst [.ref f5, .ref f6])) := sm_upd nl2
  have b3 := b2.same s3
  refine ⟨l, l2, _, _, rfl, rfl, s3 _ _ (e12 _ _ el fun ps z => by cases z), upd_same, (show 7 ≤ sizeLine by decide), fun p np => ?_⟩
  have s4 : Same (upd H2 l2 (.lst [.ref f5, .ref f6])) (upd (upd H2 l2 (.lst [.ref f5, .ref f6])) p (.lst ([V.ref f0, .ref f1, .ref f2, .ref f3, .ref f4] ++ [.ref f5, .ref f6]))) := sm_upd np
  have b4 := b3.same s4
  refine ⟨r, a, p, ns, _, rfl, upd_same, b3.row.ne np, (show 0 < 7 by decide), (show 7 ≤ 1000 by decide), hns, b4.row, fun i y H5 hy sb5 hR5 => ?_⟩
  have b5 := b4.sb sb5 hR5
  have x15 : Xt r H H5 := (Xt.ext e12).trans ((Xt.same (s3.trans s4)).trans (.sb sb5))
  have x25 : Xt r H2 H5 := (Xt.same (s3.trans s4)).trans (.sb sb5)
  have x55 : Xt r H1 H5 := (Xt.ext e2).trans x25
  have b1 := b.ext e1 t1
  obtain ⟨⟨tk, kd⟩, hbad⟩ := bad.xt x15
  have nWay : ∀ {u} {E' : XK}, (∀ H', Same H5 H' → E' (.ref c.way) none H') → BothBad c H5 v u E' := fun q => .inl ⟨hbad, q H5 (Same.refl _)⟩
  have fin : ∀ H2, Same H5 H2 → ∃ k, V.bl (!decide (V.str Ec.way.txt = V.str (Str.ofString "way"))) = .bl k ∧ if k = true then D.rt (.bl false) H2 else I2 K Pt a ns (f19 (some (.ref a)) (some (.ref r)) (some (.str wy)) (some (tv bs)) (some (.ref D')) (some v) (some (.ref l)) y7 y8 y9 y10 y11 y12 y13 y14 y15 y16 y17 y18) H2 := fun H2 s2 =>
    ⟨_, rfl, ifF (by decide +kernel) ⟨r, wy, bs, D', b5.same s2, _, _, _, _, _, _, _, _, _, _, _, _, _, _, rfl⟩⟩
  have hm := List.mem_of_getElem? hy
  simp only [List.mem_cons, List.not_mem_nil, or_false, List.cons_append, List.nil_append] at hm
  rcases hm with e | e | e | e | e | e | e <;> rw [e]
  · exact hand0 .way (lp_3_0 L) (lamAt_xt b.row x15 a0) rfl (fun E' Qn q => ⟨v, rfl, v, .non, tk, rfl, kd.1, nWay q⟩) fun H2 s2 => ⟨rfl, fin H2 s2⟩
  · exact hand0 .way (lp_3_1 L) (lamAt_xt b.row x15 a1) rfl (fun E' Qn q => ⟨v, rfl, v, .non, tk, rfl, kd.1, nWay q⟩) fun H2 s2 => ⟨rfl, fin H2 s2⟩
  · exact hand0 .way (lp_3_2 L) (lamAt_xt b.row x15 a2) rfl (fun E' Qn q => ⟨v, rfl, v, tk, rfl, kd.1, hbad, q H5 (Same.refl _)⟩) fun H2 s2 => ⟨rfl, fin H2 s2⟩
  · exact hand0 .way (lp_3_3 L) (lamAt_xt b.row x15 a3) rfl (fun E' Qn q => ⟨v, rfl, v, .non, tk, rfl, kd.1, .inl ⟨hbad, q H5 (Same.refl _)⟩⟩) fun H2 s2 => ⟨rfl, fin H2 s2⟩
  · exact hand0 .way (lp_3_4 L) (lamAt_xt b.row x15 a4) rfl (fun E' Qn q => ⟨v, rfl, v, .non, tk, rfl, kd.1, .inl ⟨hbad, q H5 (Same.refl _)⟩⟩) fun H2 s2 => ⟨rfl, fin H2 s2⟩
  · exact hand0 .way (lp_4_0 L) (lamAt_xt b1.row x55 a5) rfl (fun E' Qn q => ⟨v, rfl, v, .non, tk, rfl, kd.1, .inl ⟨hbad, q H5 (Same.refl _)⟩⟩) fun H2 s2 => ⟨rfl, fin H2 s2⟩
  · refine hand0 .way (lp_4_1 L Ck fI fdI hk) (lamAt_xt b2.row x25 a6) rfl (fun E' Qn q => ⟨v, rfl, fun x dx nx ndx hne => ?_⟩) fun H2 s2 => ⟨rfl, fin H2 s2⟩
    have sA : Same H5 (upd H5 dx (.own x)) := sm_upd ndx
    have sB : Same (upd H5 dx (.own x)) (upd (upd H5 dx (.own x)) x (.ins Ck dx [])) := sm_upd (by rw [upd_ne (Ne.symm hne)]; exact nx)
    exact ⟨.ref x, v, tk, rfl, (kd.1.same sA).same sB, hbad, q _ (sA.trans sB)⟩
end
end Rv

/-! ## RvLaw3 -/
/-! law's second part: the bad row. -/
namespace Rv
open PySem PySem.Spec PyProof.Rows L2 LamX RvL
/-! ### slices and sums of tuples, as contents -/
theorem cut_whole {xs : List V} {lo hi : Option Int} (h : HT.sIx xs.length 0 lo = 0 ∧ HT.sIx xs.length xs.length hi = xs.length) : cutV xs lo hi = xs := by
  unfold cutV
  rw [h.1, h.2, List.drop_zero, Nat.sub_zero, List.take_length]
theorem cut_to {xs : List V} {k : Nat} (h : k ≤ xs.length) : cutV xs none (some (k : Int)) = xs.take k := by
  unfold cutV
  rw [HT.sIx_none, HT.sIx_nat, List.drop_zero, Nat.sub_zero, Nat.min_eq_left h]
theorem cut_from {xs : List V} {k : Nat} (h : k ≤ xs.length) : cutV xs (some (k : Int)) none = xs.drop k := by
  unfold cutV
  rw [HT.sIx_none, HT.sIx_nat, Nat.min_eq_left h]
  exact List.take_of_length_le (by rw [List.length_drop]; exact Nat.le_refl _)
theorem rd_sl {K : PySem.W.Frag} {H : Hp} {a : Addr} {xs ys : List V} {lo hi : Option Int} {Q : VK} (h : H a = some (.tup xs)) (e : cutV xs lo hi = ys) (q : ∀ H' p, Same H H' → H' p = some (.tup ys) → Q (.ref p) H') : rSlA K (.ref a) lo hi H Q := by
  subst e
  refine ⟨a, xs, rfl, .inl (.inl h), fun hw => q H a (Same.refl _) ?_, fun _ p np => q _ p (sm_upd np) upd_same⟩
  rw [cut_whole hw]
  exact h
theorem rd_cat {K : PySem.W.Frag} {H : Hp} {a b : Addr} {xs ys : List V} {Q : VK} (h : H a = some (.tup xs)) (h2 : H b = some (.tup ys)) (z : xs.length + ys.length ≤ sizeLine) (q : ∀ H' p, Same H H' → H' p = some (.tup (xs ++ ys)) → Q (.ref p) H') : rCatA K (.ref a) (.ref b) H Q := by
  refine ⟨a, b, xs, ys, rfl, rfl, .inl (.inl h), .inl (.inl h2), z, fun e => ?_, fun _ e => ?_, fun _ _ p np => q _ p (sm_upd np) upd_same⟩
  · refine q H b (Same.refl _) ?_
    rw [e, List.nil_append]
    exact h2
  · refine q H a (Same.refl _) ?_
    rw [e, List.append_nil]
    exact h
theorem tn {Q : Option Int → Hp → Prop} {σ : L2.St} {H : Hp} (h : Q none H) : tNoPart σ H Q := h
/-- what is told of the heap whatever goes on -/
def Sta (r : Addr) (H : Hp) (p : Hp → Prop) : Prop := ∀ H', Xt r H H' → p H'
theorem Sta.xt {r : Addr} {H H' : Hp} {p : Hp → Prop} (h : Sta r H p) (x : Xt r H H') : Sta r H' p := fun H2 y => h H2 (x.trans y)
theorem Sta.here {r : Addr} {H : Hp} {p : Hp → Prop} (h : Sta r H p) : p H := h H (Xt.refl _ _)
theorem xt_tup {r : Addr} {H H' : Hp} {a : Addr} {xs : List V} (x : Xt r H H') (n : a ≠ r) (e : H a = some (.tup xs)) : H' a = some (.tup xs) := x _ _ n e fun ps z => by cases z
theorem xt_lst {r : Addr} {H H' : Hp} {a : Addr} {xs : List V} (x : Xt r H H') (n : a ≠ r) (e : H a = some (.lst xs)) : H' a = some (.lst xs) := x _ _ n e fun ps z => by cases z
theorem LRow.tup_ne {K : PySem.W.Frag} {H : Hp} {a r l : Addr} {ns : List Int} {xs : List V} (h : LRow K a ns r H) (e : H l = some (.tup xs)) : l ≠ r := fun z => by
  obtain ⟨_, _, _, _, h1, _⟩ := h
  rw [z, h1] at e
  cases e
/-- an index as it is told -/
def Due (v : V) : Prop := v = .non ∨ ∃ i : Nat, v = .int i
theorem due_dp {v : V} (h : Due v) (x : Str) (hx : SeqAt.shaped (.str x) = true) (K : PySem.W.Frag) : ∃ d : PyData, (∀ H, Dp K H v d) ∧ SeqAt.shaped (.tuple [.str x, d]) = true ∧ PyData.eqv (.tuple [.str x, d]) (.tuple [.str x, d]) = true := by
  rcases h with rfl | ⟨i, rfl⟩
  · refine ⟨.none, fun _ => .non, ?_, ?_⟩
    · simp [SeqAt.shaped, PyData.canLay0, PyData.canLayAll0, PyData.depth, PyData.depthAll] at hx ⊢
      exact hx
    · simp [PyData.eqv, PyData.eqvAll]
  · refine ⟨.int i, fun _ => .int _, ?_, ?_⟩
    · simp [SeqAt.shaped, PyData.canLay0, PyData.canLayAll0, PyData.depth, PyData.depthAll] at hx ⊢
      exact hx
    · simp [PyData.eqv, PyData.eqvAll]
section
variable {P : Program} {w : World} {K : PySem.W.Frag} {mg : Str → Option Value} {base : Heap} {c : Cs} {CV cL Pt f : Addr} {A : Around} {outer : List Env} {s : Shared} {H0 : Hp} {E : XK} {a : Addr} {ns : List Int}
abbrev voV (bs : List Bool) : List V := bs.map fun b => V.str (vo b)
def I5 (K : PySem.W.Frag) (Pt a : Addr) (ns : List Int) (σ : L2.St) (H : Hp) : Prop := ∃ r wy bs D, B2 K Pt a ns H r wy bs D ∧ ∃ (k : Nat) (q : Addr), k ≤ bs.length ∧ H q = some (.tup (voV bs)) ∧ ∃ y5 y6 y9 y10 y11 y12 y13 y14 y15 y16 y17 y18,
  σ = f19 (some (.ref a)) (some (.ref r)) (some (.str wy)) (some (tv bs)) (some (.ref D)) y5 y6 (some (.int k)) (some (.ref q)) y9 y10 y11 y12 y13 y14 y15 y16 y17 y18
theorem ph5 (L : Lw P w K mg base c CV cL Pt) (hr : Room 8 (LX P w K mg base f cL A outer s H0 E).A) (hns : ns.length ≤ 1000) : Ph (LX P w K mg base f cL A outer s H0 E) (ls 5) (I2 K Pt a ns) (I5 K Pt a ns) := by
  refine ⟨_, ps_par (i := 7) (j := 8) rfl sc_law.nd rfl rfl (by decide) rfl rfl (pa_cons (Df.pe L.G.taken (hr.mono (by decide)) (pa_cons (pv 1) (pa_cons (pe_op op_add (pe_callB call_len_str rfl L.M.len boot_len (pa_cons (pv 3) pa_nil)) pe_int) pa_nil))) (pa_cons (Df.pe L.G.voices (hr.mono (by decide)) (pa_cons (pv 3) pa_nil)) pa_nil)) rfl, fun D σ H i => ?_⟩
  obtain ⟨r, wy, bs, D', b, y5, y6, y7, y8, y9, y10, y11, y12, y13, y14, y15, y16, y17, y18, rfl⟩ := i
  have l8 := b.t8
  refine ⟨.ref r, rfl, tv bs, rfl, tx bs, rfl, by rw [tx_len, sizeLine_eq]; omega, _, 1, rfl, rfl, r, a, _, ns, rfl, by rw [tx_len]; omega, by rw [tx_len]; omega, hns, b.row, fun k H1 hk sb1 hR1 => ?_⟩
  rw [tx_len] at hk
  have b1 := b.sb sb1 hR1
  refine ⟨tv bs, rfl, bs, rfl, by omega, fun H2 q s2 nq eq => ?_⟩
  exact ⟨_, _, rfl, r, wy, bs, D', b1.same s2, k, q, by omega, eq, _, _, _, _, _, _, _, _, _, _, _, _, rfl⟩
/-- no voice -/
def BadI (r : Addr) (H : Hp) (v : V) : Prop := (∃ t, KdN r H v t) ∧ strIn v VOI = false
theorem BadI.xt {r : Addr} {H H' : Hp} {v : V} (x : Xt r H H') (h : BadI r H v) : BadI r H' v := ⟨h.1.imp fun _ k => k.xt x, h.2⟩
def I6 (K : PySem.W.Frag) (Pt a : Addr) (ns : List Int) (σ : L2.St) (H : Hp) : Prop := ∃ r wy bs D, B2 K Pt a ns H r wy bs D ∧ ∃ (k : Nat) (q q9 : Addr) (y : V), k ≤ bs.length ∧ H q = some (.tup (voV bs)) ∧ H q9 = some (.tup ((voV bs).take k ++ [y] ++ (voV bs).drop k)) ∧ BadI r H y ∧ ∃ y5 y6 y10 y11 y12 y13 y14 y15 y16 y17 y18,
  σ = f19 (some (.ref a)) (some (.ref r)) (some (.str wy)) (some (tv bs)) (some (.ref D)) y5 y6 (some (.int k)) (some (.ref q)) (some (.ref q9)) y10 y11 y12 y13 y14 y15 y16 y17 y18
theorem ph6 (L : Lw P w K mg base c CV cL Pt) (hr : Room 8 (LX P w K mg base f cL A outer s H0 E).A) (hns : ns.length ≤ 1000) : Ph (LX P w K mg base f cL A outer s H0 E) (ls 6) (I5 K Pt a ns) (I6 K Pt a ns) := by
  refine ⟨_, ps_set (i := 9) sc_law.nd rfl (.inl rfl) (pe_op op_catA (pe_op op_catA (pe_slice sl_tupA (pv 8) po_none (po_some (pv 7)))
      (pe_tup (pa_cons (Df.pe L.G.pick (hr.mono (by decide)) (pa_cons (pv 1) (pa_cons (pe_lst (pa_cons pe_non (pa_cons pe_str (pa_cons pe_str (pa_cons (pe_lst (pa_cons pe_str pa_nil)) (pa_cons pe_int (pa_cons pe_bl (pa_cons pe_str pa_nil)))))))) pa_nil))) pa_nil)))
    (pe_slice sl_tupA (pv 8) (po_some (pv 7)) po_none)), fun D σ H i => ?_⟩
  obtain ⟨r, wy, bs, D', b, k, q, hk, eq, y5, y6, y9, y10, y11, y12, y13, y14, y15, y16, y17, y18, rfl⟩ := i
  have l8 := b.t8
  have hk' : k ≤ (voV bs).length := by rw [List.length_map]; exact hk
  have lv : (voV bs).length ≤ 8 := by rw [List.length_map]; exact l8
  refine ⟨.ref q, rfl, .int k, rfl, k, rfl, rd_sl eq (cut_to hk') fun H1 p1 s1 e1 => ?_⟩
  have b1 := b.same s1
  refine ⟨.ref r, rfl, (show 1 ≤ sizeLine by decide), fun p2 n2 => ⟨(show 7 ≤ sizeLine by decide), fun l nl => ?_⟩⟩
  have s2 : Same H1 (upd H1 p2 (.lst [V.str (Str.ofString "deny")])) := sm_upd n2
  have s3 : Same (upd H1 p2 (.lst [V.str (Str.ofString "deny")])) (upd (upd H1 p2 (.lst [V.str (Str.ofString "deny")])) l (.lst [V.non, .str (Str.ofString "Allow"), .str (Str.ofString "+"), .ref p2, .int 1, .bl true, .str (Str.ofString "")])) := sm_upd nl
  have b2 := b1.same s2
  have b3 := b2.same s3
  refine ⟨r, a, l, ns, _, rfl, upd_same, b2.row.ne nl, (show 0 < 7 by decide), (show 7 ≤ 1000 by decide), hns, b3.row, fun i y H4 hy sb4 hR4 => ?_⟩
  have bad : BadI r H4 y := by
    refine BadI.xt (.sb sb4) ?_
    have hm := List.mem_of_getElem? hy
    simp only [List.mem_cons, List.not_mem_nil, or_false] at hm
    rcases hm with e | e | e | e | e | e | e <;> rw [e]
    · exact ⟨⟨_, .non, fun z => nomatch z⟩, by decide +kernel⟩
    · exact ⟨⟨_, .str _, fun z => nomatch z⟩, by decide +kernel⟩
    · exact ⟨⟨_, .str _, fun z => nomatch z⟩, by decide +kernel⟩
    · exact ⟨⟨_, .lst (s3 _ _ upd_same), fun z => b1.row.ne n2 (V.ref.inj z)⟩, rfl⟩
    · exact ⟨⟨_, .int _, fun z => nomatch z⟩, by decide +kernel⟩
    · exact ⟨⟨_, .bl _, fun z => nomatch z⟩, by decide +kernel⟩
    · exact ⟨⟨_, .str _, fun z => nomatch z⟩, by decide +kernel⟩
  have b4 := b3.sb sb4 hR4
  have x14 : Xt r H1 H4 := (Xt.same (s2.trans s3)).trans (.sb sb4)
  have e14 : H4 p1 = some (.tup ((voV bs).take k)) := xt_tup x14 (b1.row.tup_ne e1) e1
  have eq4 : H4 q = some (.tup (voV bs)) := xt_tup x14 (b1.row.tup_ne (s1 _ _ eq)) (s1 _ _ eq)
  refine ⟨(show 1 ≤ sizeLine by decide), fun p5 n5 => ?_⟩
  have s5 : Same H4 (upd H4 p5 (.tup [y])) := sm_upd n5
  refine rd_cat (s5 _ _ e14) upd_same (by rw [List.length_take, sizeLine_eq]; show min k _ + 1 ≤ _; omega) fun H6 p6 s6 e6 => ?_
  refine ⟨.ref q, rfl, .int k, rfl, k, rfl, tn ?_⟩
  refine rd_sl (s6 _ _ (s5 _ _ eq4)) (cut_from hk') fun H7 p7 s7 e7 => ?_
  refine rd_cat (s7 _ _ e6) e7 ?_ fun H8 p8 s8 e8 => ?_
  · rw [List.length_append, List.length_take, List.length_drop, sizeLine_eq]
    show min k _ + 1 + _ ≤ _
    omega
  · have sAll := s5.trans (s6.trans (s7.trans s8))
    exact ⟨r, wy, bs, D', b4.same sAll, k, q, p8, y, hk, sAll _ _ eq4, e8, bad.xt (.same sAll), _, _, _, _, _, _, _, _, _, _, _, rfl⟩
def I7 (K : PySem.W.Frag) (Pt a : Addr) (ns : List Int) (σ : L2.St) (H : Hp) : Prop := ∃ r wy bs D, B2 K Pt a ns H r wy bs D ∧ ∃ ill due, Due due ∧ Sta r H (fun H' => RowBad H' ill due) ∧ ∃ y5 y6 y7 y8 y9 y12 y13 y14 y15 y16 y17 y18,
  σ = f19 (some (.ref a)) (some (.ref r)) (some (.str wy)) (some (tv bs)) (some (.ref D)) y5 y6 y7 y8 y9 (some ill) (some due) y12 y13 y14 y15 y16 y17 y18
theorem ph7 (L : Lw P w K mg base c CV cL Pt) (hr : Room 8 (LX P w K mg base f cL A outer s H0 E).A) (hns : ns.length ≤ 1000) : Ph (LX P w K mg base f cL A outer s H0 E) (ls 7) (I6 K Pt a ns) (I7 K Pt a ns) := by
  refine ⟨_, ps_asg (Df.pe L.G.pick (hr.mono (by decide)) (pa_cons (pv 1) (pa_cons (pe_lst
      (pa_cons (pe_tup (pa_cons (pv 9) (pa_cons (pv 7) pa_nil)))
      (pa_cons (pe_tup (pa_cons (pe_callTy call_list_of rfl L.M.tlist boot_list (pa_cons (pv 8) pa_nil)) (pa_cons pe_non pa_nil)))
      (pa_cons (pe_tup (pa_cons pe_non (pa_cons pe_non pa_nil)))
      (pa_cons (pe_tup (pa_cons (pe_tup pa_nil) (pa_cons pe_non pa_nil)))
      (pa_cons (pe_tup (pa_cons pe_str (pa_cons pe_non pa_nil)))
      (pa_cons (pe_tup (pa_cons (pe_op op_repT (pe_tup (pa_cons pe_str pa_nil)) pe_int) (pa_cons pe_non pa_nil))) pa_nil))))))) pa_nil)))
    (pg_tup rfl (pgs_cons (pg_name (i := 10) sc_law.nd rfl (.inr rfl)) (pgs_cons (pg_name (i := 11) sc_law.nd rfl (.inl rfl)) pgs_nil))), fun D σ H i => ?_⟩
  obtain ⟨r, wy, bs, D', b, k, q, q9, y, hk, eq, e9, bad, y5, y6, y10, y11, y12, y13, y14, y15, y16, y17, y18, rfl⟩ := i
  have l8 := b.t8
  have l1 := b.t1
  have two : ∀ {x y : V}, ([x, y] : List V).length ≤ sizeLine := fun {x y} => (show 2 ≤ sizeLine by decide)
  refine ⟨.ref r, rfl, .ref q9, rfl, .int k, rfl, two, fun p1 n1 => ?_⟩
  have s1 : Same H (upd H p1 (.tup [.ref q9, .int k])) := sm_upd n1
  generalize hH1 : upd H p1 (.tup [V.ref q9, .int k]) = H1 at s1
  have e1 : H1 p1 = some (.tup [.ref q9, .int k]) := by rw [← hH1]; exact upd_same
  have b1 := b.same s1
  refine ⟨.ref q, rfl, q, voV bs, rfl, .inr (.inl (.inl (s1 _ _ eq))), fun l2 n2 => ⟨two, fun p2 m2 => ?_⟩⟩
  have s2a : Same H1 (upd H1 l2 (.lst (voV bs))) := sm_upd n2
  have s2b : Same (upd H1 l2 (.lst (voV bs))) (upd (upd H1 l2 (.lst (voV bs))) p2 (.tup [.ref l2, .non])) := sm_upd m2
  have s2 := s2a.trans s2b
  have nl2 : l2 ≠ r := b1.row.ne n2
  generalize hH2 : upd (upd H1 l2 (.lst (voV bs))) p2 (.tup [V.ref l2, .non]) = H2 at s2 s2b
  have el2 : H2 l2 = some (.lst (voV bs)) := s2b _ _ upd_same
  have e2 : H2 p2 = some (.tup [.ref l2, .non]) := by rw [← hH2]; exact upd_same
  have b2 := b1.same s2
  refine ⟨two, fun p3 n3 => ?_⟩
  have s3 : Same H2 (upd H2 p3 (.tup [.non, .non])) := sm_upd n3
  generalize hH3 : upd H2 p3 (.tup [V.non, .non]) = H3 at s3
  have e3 : H3 p3 = some (.tup [.non, .non]) := by rw [← hH3]; exact upd_same
  have b3 := b2.same s3
  refine ⟨Nat.zero_le _, fun l4 n4 => ⟨two, fun p4 m4 => ?_⟩⟩
  have s4a : Same H3 (upd H3 l4 (.tup [])) := sm_upd n4
  have s4b : Same (upd H3 l4 (.tup [])) (upd (upd H3 l4 (.tup [])) p4 (.tup [.ref l4, .non])) := sm_upd m4
  have s4 := s4a.trans s4b
  generalize hH4 : upd (upd H3 l4 (.tup [])) p4 (.tup [V.ref l4, .non]) = H4 at s4 s4b
  have el4 : H4 l4 = some (.tup []) := s4b _ _ upd_same
  have e4 : H4 p4 = some (.tup [.ref l4, .non]) := by rw [← hH4]; exact upd_same
  have b4 := b3.same s4
  refine ⟨two, fun p5 n5 => ?_⟩
  have s5 : Same H4 (upd H4 p5 (.tup [.str (Str.ofString "deny"), .non])) := sm_upd n5
  generalize hH5 : upd H4 p5 (.tup [V.str (Str.ofString "deny"), .non]) = H5 at s5
  have e5 : H5 p5 = some (.tup [.str (Str.ofString "deny"), .non]) := by rw [← hH5]; exact upd_same
  have b5 := b4.same s5
  refine ⟨(show 1 ≤ sizeLine by decide), fun l6 n6 => ⟨l6, 13, [V.str (Str.ofString "deny")], rfl, rfl, .inl (.inl upd_same), by simp, by decide, by decide, (show 1 ≤ 1000 by decide), fun l7 n7 => ⟨two, fun p6 m6 => ?_⟩⟩⟩
  have s6a : Same H5 (upd H5 l6 (.tup [V.str (Str.ofString "deny")])) := sm_upd n6
  have s6b : Same (upd H5 l6 (.tup [V.str (Str.ofString "deny")])) (upd (upd H5 l6 (.tup [V.str (Str.ofString "deny")])) l7 (.tup (List.replicate (Int.toNat 13) [V.str (Str.ofString "deny")]).flatten)) := sm_upd n7
  have s6c : Same _ (upd (upd (upd H5 l6 (.tup [V.str (Str.ofString "deny")])) l7 (.tup (List.replicate (Int.toNat 13) [V.str (Str.ofString "deny")]).flatten)) p6 (.tup [.ref l7, .non])) := sm_upd m6
  have s6 := (s6a.trans s6b).trans s6c
  generalize hH6 : upd (upd (upd H5 l6 (.tup [V.str (Str.ofString "deny")])) l7 (.tup (List.replicate (Int.toNat 13) [V.str (Str.ofString "deny")]).flatten)) p6 (.tup [V.ref l7, .non]) = H6 at s6 s6c
  have el7 : H6 l7 = some (.tup (List.replicate (Int.toNat 13) [V.str (Str.ofString "deny")]).flatten) := s6c _ _ upd_same
  have e6 : H6 p6 = some (.tup [.ref l7, .non]) := by rw [← hH6]; exact upd_same
  have b6 := b5.same s6
  refine ⟨(show 6 ≤ sizeLine by decide), fun l nl => ?_⟩
  have s7 : Same H6 (upd H6 l (.lst [.ref p1, .ref p2, .ref p3, .ref p4, .ref p5, .ref p6])) := sm_upd nl
  have b7 := b6.same s7
  refine ⟨r, a, l, ns, _, rfl, upd_same, b6.row.ne nl, (show 0 < 6 by decide), (show 6 ≤ 1000 by decide), hns, b7.row, fun i z H8 hz sb8 hR8 => ?_⟩
  have b8 := b7.sb sb8 hR8
  have x68 : Xt r H6 H8 := (Xt.same s7).trans (.sb sb8)
  have s56 := s5.trans s6
  have s46 := s4.trans s56
  have s36 := s3.trans s46
  have s26 := s2.trans s36
  have s16 := s1.trans s26
  have fin : ∀ (p : Addr) (ill due : V), Due due → H6 p = some (.tup [ill, due]) → Sta r H8 (fun H' => RowBad H' ill due) →
      gTup K 2 (gCons (gName 10) (gCons (gName 11) gNil)) (.ref p) (f19 (some (.ref a)) (some (.ref r)) (some (.str wy)) (some (tv bs)) (some (.ref D')) y5 y6 (some (.int k)) (some (.ref q)) (some (.ref q9)) y10 y11 y12 y13 y14 y15 y16 y17 y18) H8 (I7 K Pt a ns) := fun p ill due hd ep st =>
    ⟨p, _, rfl, .inl (.inl (xt_tup x68 (b6.row.tup_ne ep) ep)), rfl, _, _, rfl, _, _, rfl, rfl, r, wy, bs, D', b8, ill, due, hd, st, _, _, _, _, _, _, _, _, _, _, _, _, rfl⟩
  have hm := List.mem_of_getElem? hz
  simp only [List.mem_cons, List.not_mem_nil, or_false] at hm
  rcases hm with e | e | e | e | e | e <;> rw [e]
  · refine fin p1 _ _ (.inr ⟨k, rfl⟩) (s26 _ _ e1) fun H' x => ?_
    have e9' : H' q9 = some (.tup ((voV bs).take k ++ [y] ++ (voV bs).drop k)) := xt_tup x (b8.row.tup_ne (xt_tup x68 (b6.row.tup_ne (s16 _ _ e9)) (s16 _ _ e9))) (xt_tup x68 (b6.row.tup_ne (s16 _ _ e9)) (s16 _ _ e9))
    obtain ⟨⟨t, kd⟩, hb⟩ := bad.xt (((Xt.same s16).trans x68).trans x)
    have lv : (voV bs).length = bs.length := List.length_map _
    refine .item (i := k) (y := y) e9' ?_ (fun j z0 hj hz0 => ?_) ?_ kd.1 hb
    · rw [List.length_append, List.length_append, List.length_take, List.length_drop]
      show 1 ≤ min k (voV bs).length + 1 + ((voV bs).length - k) ∧ min k (voV bs).length + 1 + ((voV bs).length - k) ≤ 12
      omega
    · rw [List.append_assoc, List.getElem?_append_left (by rw [List.length_take]; omega), List.getElem?_take_of_lt hj, List.getElem?_map] at hz0
      obtain ⟨b0, _, h0⟩ := Option.map_eq_some_iff.mp hz0
      rw [← h0]
      cases b0 <;> decide +kernel
    · rw [List.append_assoc, List.getElem?_append_right (by rw [List.length_take]; omega), List.length_take, lv, Nat.min_eq_left hk, Nat.sub_self]
      rfl
  · exact fin p2 _ _ (.inl rfl) (s36 _ _ e2) fun H' x => .kind (.lst (xt_lst x nl2 (xt_lst x68 nl2 (s36 _ _ el2)))) (by decide)
  · exact fin p3 _ _ (.inl rfl) (s46 _ _ e3) fun H' x => .kind .non (by decide)
  · have ee : H8 l4 = some (.tup []) := xt_tup x68 (b6.row.tup_ne (s56 _ _ el4)) (s56 _ _ el4)
    exact fin p4 _ _ (.inl rfl) (s56 _ _ e4) fun H' x => .len (xt_tup x (b8.row.tup_ne ee) ee) (fun z => absurd z.1 (by decide))
  · exact fin p5 _ _ (.inl rfl) (s6 _ _ e5) fun H' x => .kind (.str _) (by decide)
  · have ee : H8 l7 = _ := xt_tup x68 (b6.row.tup_ne el7) el7
    exact fin p6 _ _ (.inl rfl) e6 fun H' x => .len (xt_tup x (b8.row.tup_ne ee) ee) (fun z => absurd z.2 (show ¬ (13 ≤ 12) by decide))
def I8 (K : PySem.W.Frag) (Pt a : Addr) (ns : List Int) (σ : L2.St) (H : Hp) : Prop := ∃ r wy bs D, B2 K Pt a ns H r wy bs D ∧ ∃ ill due t, Due due ∧ Sta r H (fun H' => RowBad H' ill due) ∧ H t = some (.tup SMALL) ∧ ∃ y5 y6 y7 y8 y9 y13 y14 y15 y16 y17 y18,
  σ = f19 (some (.ref a)) (some (.ref r)) (some (.str wy)) (some (tv bs)) (some (.ref D)) y5 y6 y7 y8 y9 (some ill) (some due) (some (.ref t)) y13 y14 y15 y16 y17 y18
theorem ph8 : Ph (LX P w K mg base f cL A outer s H0 E) (ls 8) (I7 K Pt a ns) (I8 K Pt a ns) := by
  refine ⟨_, ps_set (i := 12) sc_law.nd rfl (.inr rfl) (pe_tup (pa_cons pe_str (pa_cons pe_str (pa_cons pe_str (pa_cons pe_str (pa_cons pe_str (pa_cons pe_str pa_nil))))))), fun D σ H i => ?_⟩
  obtain ⟨r, wy, bs, D', b, ill, due, hd, st, y5, y6, y7, y8, y9, y12, y13, y14, y15, y16, y17, y18, rfl⟩ := i
  refine ⟨(show 6 ≤ sizeLine by decide), fun p np => ?_⟩
  have s1 : Same H (upd H p (.tup SMALL)) := sm_upd np
  exact ⟨r, wy, bs, D', b.same s1, ill, due, p, hd, st.xt (.same s1), upd_same, _, _, _, _, _, _, _, _, _, _, _, rfl⟩
def I9 (env : Env) (K : PySem.W.Frag) (Pt a : Addr) (ns : List Int) (σ : L2.St) (H : Hp) : Prop := ∃ r wy bs D, B2 K Pt a ns H r wy bs D ∧ ∃ ill due t, Due due ∧ Sta r H (fun H' => RowBad H' ill due) ∧ H t = some (.tup SMALL) ∧ ∃ l f0 f1 f2 f3, H l = some (.lst [.ref f0, .ref f1, .ref f2, .ref f3]) ∧ l ≠ r ∧
  LamAt env H (ll 9 0) f0 ∧ LamAt env H (ll 9 1) f1 ∧ LamAt env H (ll 9 2) f2 ∧ LamAt env H (ll 9 3) f3 ∧ ∃ y5 y7 y8 y9 y13 y14 y15 y16 y17 y18,
  σ = f19 (some (.ref a)) (some (.ref r)) (some (.str wy)) (some (tv bs)) (some (.ref D)) y5 (some (.ref l)) y7 y8 y9 (some ill) (some due) (some (.ref t)) y13 y14 y15 y16 y17 y18
theorem ph9 (L : Lw P w K mg base c CV cL Pt) : Ph (LX P w K mg base f cL A outer s H0 E) (ls 9) (I8 K Pt a ns) (I9 (LX P w K mg base f cL A outer s H0 E).env K Pt a ns) := by
  refine ⟨_, ps_set (i := 6) sc_law.nd rfl (.inl rfl) (pe_lst (pa_cons (pe_l L lk_9_0 lb_9_0) (pa_cons (pe_l L lk_9_1 lb_9_1) (pa_cons (pe_l L lk_9_2 lb_9_2) (pa_cons (pe_l L lk_9_3 lb_9_3) pa_nil))))), fun D σ H i => ?_⟩
  obtain ⟨r, wy, bs, D', b, ill, due, t, hd, st, et, y5, y6, y7, y8, y9, y13, y14, y15, y16, y17, y18, rfl⟩ := i
  refine ⟨b.tabs, fun f0 H1 e1 t1 a0 => ⟨t1, fun f1 H2 e2 t2 a1 => ⟨t2, fun f2 H3 e3 t3 a2 => ⟨t3, fun f3 H4 e4 t4 a3 => ⟨(show 4 ≤ sizeLine by decide), fun l nl => ?_⟩⟩⟩⟩⟩
  have e24 := e2.trans (e3.trans e4)
  have e14 := e1.trans e24
  have b4 := b.ext e14 t4
  have s5 : Same H4 (upd H4 l (.lst [.ref f0, .ref f1, .ref f2, .ref f3])) := sm_upd nl
  have n5 := ExtN.of s5
  have x : Xt r H _ := (Xt.ext e14).trans (.same s5)
  exact ⟨r, wy, bs, D', b4.same s5, ill, due, t, hd, st.xt x, xt_tup x (b.row.tup_ne et) et, l, f0, f1, f2, f3, upd_same, b4.row.ne nl, (a0.ext e24).ext n5, (a1.ext (e3.trans e4)).ext n5, (a2.ext e4).ext n5, a3.ext n5, _, _, _, _, _, _, _, _, _, _, rfl⟩
theorem ph10 (L : Lw P w K mg base c CV cL Pt) (hr : Room 8 (LX P w K mg base f cL A outer s H0 E).A) (hns : ns.length ≤ 1000) : Ph (LX P w K mg base f cL A outer s H0 E) (ls 10) (I9 (LX P w K mg base f cL A outer s H0 E).env K Pt a ns) (I2 K Pt a ns) := by
  refine ⟨_, ps_if (pt_cmpR (op_neD hr.units) (pe_wrong L.D L.M L.k hr (pa_cons (Df.pe L.G.pick (hr.mono (by decide)) (pa_cons (pv 1) (pa_cons (pv 6) pa_nil))) pa_nil)) (pe_tup (pa_cons pe_str (pa_cons (pv 11) pa_nil))) (nomark _)) (pss_one (ps_ret pe_bl)) pss_nil, fun D σ H i => ?_⟩
  obtain ⟨r, wy, bs, D', b, ill, due, t, hd, st, et, l, f0, f1, f2, f3, el, nlr, a0, a1, a2, a3, y5, y7, y8, y9, y13, y14, y15, y16, y17, y18, rfl⟩ := i
  refine ⟨.ref r, rfl, .ref l, rfl, r, a, l, ns, _, rfl, el, nlr, (show 0 < 4 by decide), (show 4 ≤ 1000 by decide), hns, b.row, fun i y H5 hy sb5 hR5 => ?_⟩
  have b5 := b.sb sb5 hR5
  have x5 : Xt r H H5 := .sb sb5
  have bad : RowBad H5 ill due := st H5 x5
  have et5 : H5 t = some (.tup SMALL) := xt_tup x5 (b.row.tup_ne et) et
  obtain ⟨dd, dp, sh, eqv⟩ := due_dp hd (Str.ofString "row") (by decide +kernel) K
  have fin : ∀ H2 p, Same H5 H2 → H2 p = some (.tup [V.str Ec.row.txt, due]) → tTup (tCons (tC (.str (Str.ofString "row"))) (tCons (tVar 11) tNil)) (f19 (some (.ref a)) (some (.ref r)) (some (.str wy)) (some (tv bs)) (some (.ref D')) y5 (some (.ref l)) y7 y8 y9 (some ill) (some due) (some (.ref t)) y13 y14 y15 y16 y17 y18) H2 fun y H3 => rNeD K (.ref p) y H3 fun x H4 => ∃ k, x = .bl k ∧
      if k = true then D.rt (.bl false) H4 else I2 K Pt a ns (f19 (some (.ref a)) (some (.ref r)) (some (.str wy)) (some (tv bs)) (some (.ref D')) y5 (some (.ref l)) y7 y8 y9 (some ill) (some due) (some (.ref t)) y13 y14 y15 y16 y17 y18) H4 := fun H2 p s2 ep => by
    refine ⟨due, rfl, (show 2 ≤ sizeLine by decide), fun p2 np2 => ?_⟩
    have s3 : Same H2 (upd H2 p2 (.tup [V.str (Str.ofString "row"), due])) := sm_upd np2
    refine ⟨.tuple [.str (Str.ofString "row"), dd], .tuple [.str (Str.ofString "row"), dd], .tup (.inl (.inl (s3 _ _ ep))) (.cons (.str _) (.cons (dp _) .nil)), .tup (.inl (.inl upd_same)) (.cons (.str _) (.cons (dp _) .nil)), sh, sh, _, rfl, ifF (by rw [eqv] <;> rfl) ?_⟩
    exact ⟨r, wy, bs, D', b5.same (s2.trans s3), _, _, _, _, _, _, _, _, _, _, _, _, _, _, rfl⟩
  have both : ∀ {E' : XK}, (∀ H', Same H5 H' → IxW (c.at .row) due E' H') → BothBad c H5 (.str wy) ill E' := fun q => .inr ⟨way_in wy b.way, due, bad, q H5 (Same.refl _)⟩
  have hm := List.mem_of_getElem? hy
  simp only [List.mem_cons, List.not_mem_nil, or_false] at hm
  rcases hm with e | e | e | e <;> rw [e]
  · exact handX .row (lp_9_0 L) (lamAt_xt b.row x5 a0) rfl (fun E' Qn q => ⟨.str wy, rfl, ill, rfl, .str wy, ill, _, rfl, .str _, both q⟩) fin
  · exact handX .row (lp_9_1 L) (lamAt_xt b.row x5 a1) rfl (fun E' Qn q => ⟨.str wy, rfl, ill, rfl, .str wy, ill, _, rfl, .str _, both q⟩) fin
  · exact handX .row (lp_9_2 L) (lamAt_xt b.row x5 a2) rfl (fun E' Qn q => ⟨ill, rfl, ill, due, rfl, bad, q H5 (Same.refl _)⟩) fin
  · exact handX .row (lp_9_3 L) (lamAt_xt b.row x5 a3) rfl (fun E' Qn q => ⟨.ref t, rfl, ill, rfl, t, ill, due, rfl, et5, bad, q⟩) fin
end
end Rv

/-! ## RvLaw4 -/
/-! law's third part: the bad promise, promises, number. -/
namespace Rv
open PySem PySem.Spec PyProof.Rows L2 LamX RvL
theorem vo_in : ∀ b : Bool, strIn (.str (vo b)) VOI = true := by decide +kernel
theorem tab_ok {H : Hp} {p : Addr} {bs : List Bool} (e : H p = some (.tup (bs.map fun b => V.str (vo b)))) (l : bs.length = 14) : TabOk H (.ref p) :=
  ⟨p, _, rfl, e, by rw [List.length_map, l], fun j z hz => by
    rw [List.getElem?_map] at hz
    obtain ⟨b, _, h⟩ := Option.map_eq_some_iff.mp hz
    rw [← h]
    exact vo_in b⟩
section
variable {P : Program} {w : World} {K : PySem.W.Frag} {mg : Str → Option Value} {base : Heap} {c : Cs} {CV cL Pt f : Addr} {A : Around} {outer : List Env} {s : Shared} {H0 : Hp} {E : XK} {a : Addr} {ns : List Int}
/-! ### a bad promise -/
def I11 (K : PySem.W.Frag) (Pt a : Addr) (ns : List Int) (σ : L2.St) (H : Hp) : Prop := ∃ r wy bs D, B2 K Pt a ns H r wy bs D ∧ ∃ v, ((∃ t, KdN r H v t) ∧ strIn v PRO = false) ∧ ∃ y5 y6 y7 y8 y9 y10 y11 y12 y14 y15 y16 y17 y18,
  σ = f19 (some (.ref a)) (some (.ref r)) (some (.str wy)) (some (tv bs)) (some (.ref D)) y5 y6 y7 y8 y9 y10 y11 y12 (some v) y14 y15 y16 y17 y18
theorem ph11 (L : Lw P w K mg base c CV cL Pt) (hr : Room 8 (LX P w K mg base f cL A outer s H0 E).A) (hns : ns.length ≤ 1000) : Ph (LX P w K mg base f cL A outer s H0 E) (ls 11) (I2 K Pt a ns) (I11 K Pt a ns) := by
  refine ⟨_, ps_set (i := 13) sc_law.nd rfl (.inr rfl) (Df.pe L.G.pick (hr.mono (by decide)) (pa_cons (pv 1) (pa_cons (pe_lst (pa_cons pe_non (pa_cons pe_str (pa_cons pe_str (pa_cons (pe_tup (pa_cons pe_str pa_nil)) (pa_cons pe_int (pa_cons (pe_lst (pa_cons pe_str pa_nil)) (pa_cons pe_bl pa_nil)))))))) pa_nil))), fun D σ H i => ?_⟩
  obtain ⟨r, wy, bs, D', b, y5, y6, y7, y8, y9, y10, y11, y12, y13, y14, y15, y16, y17, y18, rfl⟩ := i
  refine ⟨.ref r, rfl, (show 1 ≤ sizeLine by decide), fun p1 n1 => ⟨(show 1 ≤ sizeLine by decide), fun p2 n2 => ⟨(show 7 ≤ sizeLine by decide), fun l nl => ?_⟩⟩⟩
  have s1 : Same H (upd H p1 (.tup [V.str (Str.ofString "even")])) := sm_upd n1
  have s2 : Same _ (upd (upd H p1 (.tup [V.str (Str.ofString "even")])) p2 (.lst [V.str (Str.ofString "even")])) := sm_upd n2
  have s3 : Same (upd (upd H p1 (.tup [V.str (Str.ofString "even")])) p2 (.lst [V.str (Str.ofString "even")])) (upd _ l (.lst [V.non, .str (Str.ofString ""), .str (Str.ofString "Even"), .ref p1, .int 5, .ref p2, .bl true])) := sm_upd nl
  have bA := b.same s1
  have bB := bA.same s2
  have bC := bB.same s3
  refine ⟨r, a, l, ns, _, rfl, upd_same, bB.row.ne nl, (show 0 < 7 by decide), (show 7 ≤ 1000 by decide), hns, bC.row, fun i y H1 hy sb1 hR1 => ?_⟩
  have bad : (∃ t, KdN r (upd (upd (upd H p1 (.tup [V.str (Str.ofString "even")])) p2 (.lst [V.str (Str.ofString "even")])) l (.lst [V.non, .str (Str.ofString ""), .str (Str.ofString "Even"), .ref p1, .int 5, .ref p2, .bl true])) y t) ∧ strIn y PRO = false := by
    have hm := List.mem_of_getElem? hy
    simp only [List.mem_cons, List.not_mem_nil, or_false] at hm
    rcases hm with e | e | e | e | e | e | e <;> rw [e]
    · exact ⟨⟨_, .non, fun z => nomatch z⟩, by decide +kernel⟩
    · exact ⟨⟨_, .str _, fun z => nomatch z⟩, by decide +kernel⟩
    · exact ⟨⟨_, .str _, fun z => nomatch z⟩, by decide +kernel⟩
    · exact ⟨⟨_, .tup (s3 _ _ (s2 _ _ upd_same)), fun z => b.row.ne n1 (V.ref.inj z)⟩, rfl⟩
    · exact ⟨⟨_, .int _, fun z => nomatch z⟩, by decide +kernel⟩
    · exact ⟨⟨_, .lst (s3 _ _ upd_same), fun z => bA.row.ne n2 (V.ref.inj z)⟩, rfl⟩
    · exact ⟨⟨_, .bl _, fun z => nomatch z⟩, by decide +kernel⟩
  exact ⟨r, wy, bs, D', bC.sb sb1 hR1, y, ⟨bad.1.imp fun _ k => k.xt (.sb sb1), bad.2⟩, _, _, _, _, _, _, _, _, _, _, _, _, _, rfl⟩
theorem ph12 (L : Lw P w K mg base c CV cL Pt) (hr : Room 8 (LX P w K mg base f cL A outer s H0 E).A) (hns : ns.length ≤ 1000) : Ph (LX P w K mg base f cL A outer s H0 E) (ls 12) (I11 K Pt a ns) (I2 K Pt a ns) := by
  refine ⟨_, ps_if (pt_cmpR op_ne (pe_wrong L.D L.M L.k hr (pa_cons (Df.pe L.G.pick (hr.mono (by decide)) (pa_cons (pv 1) (pa_cons (pe_lst (pa_cons (pe_l L lk_12_0 lb_12_0) (pa_cons (pe_l L lk_12_1 lb_12_1) pa_nil))) pa_nil))) pa_nil)) pe_str (nomark _)) (pss_one (ps_ret pe_bl)) pss_nil, fun D σ H i => ?_⟩
  obtain ⟨r, wy, bs, D', b, v, ⟨kv, hv⟩, y5, y6, y7, y8, y9, y10, y11, y12, y14, y15, y16, y17, y18, rfl⟩ := i
  refine ⟨.ref r, rfl, b.tabs, fun f0 H1 e1 t1 a0 => ⟨t1, fun f1 H2 e2 t2 a1 => ⟨(show 2 ≤ sizeLine by decide), fun l nl => ?_⟩⟩⟩
  have e12 := e1.trans e2
  have b1 := b.ext e1 t1
  have b2 := b.ext e12 t2
  have s3 : Same H2 (upd H2 l (.lst [.ref f0, .ref f1])) := sm_upd nl
  have b3 := b2.same s3
  refine ⟨r, a, l, ns, _, rfl, upd_same, b2.row.ne nl, (show 0 < 2 by decide), (show 2 ≤ 1000 by decide), hns, b3.row, fun i y H5 hy sb5 hR5 => ?_⟩
  have b5 := b3.sb sb5 hR5
  have x25 : Xt r H2 H5 := (Xt.same s3).trans (.sb sb5)
  have x15 : Xt r H1 H5 := (Xt.ext e2).trans x25
  obtain ⟨tk, kd⟩ := kv
  have kd5 := kd.xt ((Xt.ext e1).trans x15)
  have fin : ∀ H2, Same H5 H2 → ∃ k, V.bl (!decide (V.str Ec.pro.txt = V.str (Str.ofString "promise"))) = .bl k ∧ if k = true then D.rt (.bl false) H2 else I2 K Pt a ns (f19 (some (.ref a)) (some (.ref r)) (some (.str wy)) (some (tv bs)) (some (.ref D')) y5 y6 y7 y8 y9 y10 y11 y12 (some v) y14 y15 y16 y17 y18) H2 := fun H2 s2 =>
    ⟨_, rfl, ifF (by decide +kernel) ⟨r, wy, bs, D', b5.same s2, _, _, _, _, _, _, _, _, _, _, _, _, _, _, rfl⟩⟩
  obtain ⟨kvs, eD, told⟩ := b5.told
  have hm := List.mem_of_getElem? hy
  simp only [List.mem_cons, List.not_mem_nil, or_false] at hm
  rcases hm with e | e <;> rw [e]
  · exact hand0 .pro (lp_12_0 L) (lamAt_xt b1.row x15 a0) rfl (fun E' Qn q => ⟨.str wy, rfl, v, rfl, .str wy, v, _, rfl, .str _, .inr ⟨way_in wy b.way, tk, kd5.1, hv, q H5 (Same.refl _)⟩⟩) fun H2 s2 => ⟨rfl, fin H2 s2⟩
  · exact hand0 .pro (lp_12_1 L) (lamAt_xt b2.row x25 a1) rfl (fun E' Qn q => ⟨.ref D', rfl, D', kvs, rfl, eD, told, fun H6 p bs6 s6 _ hl ep => ⟨v, rfl, .ref p, v, rfl, .inr ⟨tab_ok ep hl, tk, kd5.1.same s6, hv, fun H7 s7 => q H7 (s6.trans s7)⟩⟩⟩) fun H2 s2 => ⟨rfl, fin H2 s2⟩
/-! ### bad promises -/
def I13 (K : PySem.W.Frag) (Pt a : Addr) (ns : List Int) (σ : L2.St) (H : Hp) : Prop := ∃ r wy bs D, B2 K Pt a ns H r wy bs D ∧ ∃ v, Sta r H (fun H' => PromsBad H' v) ∧ ∃ y5 y6 y7 y8 y9 y10 y11 y12 y13 y15 y16 y17 y18,
  σ = f19 (some (.ref a)) (some (.ref r)) (some (.str wy)) (some (tv bs)) (some (.ref D)) y5 y6 y7 y8 y9 y10 y11 y12 y13 (some v) y15 y16 y17 y18
theorem ph13 (L : Lw P w K mg base c CV cL Pt) (hr : Room 8 (LX P w K mg base f cL A outer s H0 E).A) (hns : ns.length ≤ 1000) : Ph (LX P w K mg base f cL A outer s H0 E) (ls 13) (I2 K Pt a ns) (I13 K Pt a ns) := by
  refine ⟨_, ps_set (i := 14) sc_law.nd rfl (.inr rfl) (Df.pe L.G.pick (hr.mono (by decide)) (pa_cons (pv 1) (pa_cons (pe_lst
      (pa_cons pe_non (pa_cons (pe_lst (pa_cons pe_str pa_nil)) (pa_cons pe_str (pa_cons (pe_tup (pa_cons pe_str (pa_cons pe_str pa_nil))) (pa_cons (pe_tup (pa_cons pe_str (pa_cons pe_str pa_nil))) (pa_cons (pe_tup (pa_cons pe_str pa_nil)) (pa_cons (pe_tup (pa_cons pe_non pa_nil)) (pa_cons pe_int
      (pa_cons (pe_tup (pa_cons pe_str (pa_cons (pe_lst (pa_cons pe_str pa_nil)) pa_nil))) pa_nil)))))))))) pa_nil))), fun D σ H i => ?_⟩
  obtain ⟨r, wy, bs, D', b, y5, y6, y7, y8, y9, y10, y11, y12, y13, y14, y15, y16, y17, y18, rfl⟩ := i
  have one : (1 : Nat) ≤ sizeLine := by decide
  have two : (2 : Nat) ≤ sizeLine := by decide
  refine ⟨.ref r, rfl, one, fun p1 n1 => ?_⟩
  have s1 : Same H (upd H p1 (.lst [V.str (Str.ofString "even")])) := sm_upd n1
  generalize hH1 : upd H p1 (.lst [V.str (Str.ofString "even")]) = H1 at s1
  have e1 : H1 p1 = some (.lst [V.str (Str.ofString "even")]) := by rw [← hH1]; exact upd_same
  have b1 := b.same s1
  refine ⟨two, fun p2 n2 => ?_⟩
  have s2 : Same H1 (upd H1 p2 (.tup [V.str (Str.ofString "kept"), .str (Str.ofString "even")])) := sm_upd n2
  generalize hH2 : upd H1 p2 (.tup [V.str (Str.ofString "kept"), .str (Str.ofString "even")]) = H2 at s2
  have e2 : H2 p2 = some (.tup [V.str (Str.ofString "kept"), .str (Str.ofString "even")]) := by rw [← hH2]; exact upd_same
  have b2 := b1.same s2
  refine ⟨two, fun p3 n3 => ?_⟩
  have s3 : Same H2 (upd H2 p3 (.tup [V.str (Str.ofString "even"), .str (Str.ofString "even")])) := sm_upd n3
  generalize hH3 : upd H2 p3 (.tup [V.str (Str.ofString "even"), .str (Str.ofString "even")]) = H3 at s3
  have e3 : H3 p3 = some (.tup [V.str (Str.ofString "even"), .str (Str.ofString "even")]) := by rw [← hH3]; exact upd_same
  have b3 := b2.same s3
  refine ⟨one, fun p4 n4 => ?_⟩
  have s4 : Same H3 (upd H3 p4 (.tup [V.str (Str.ofString "Even")])) := sm_upd n4
  generalize hH4 : upd H3 p4 (.tup [V.str (Str.ofString "Even")]) = H4 at s4
  have e4 : H4 p4 = some (.tup [V.str (Str.ofString "Even")]) := by rw [← hH4]; exact upd_same
  have b4 := b3.same s4
  refine ⟨one, fun p5 n5 => ?_⟩
  have s5 : Same H4 (upd H4 p5 (.tup [V.non])) := sm_upd n5
  generalize hH5 : upd H4 p5 (.tup [V.non]) = H5 at s5
  have e5 : H5 p5 = some (.tup [V.non]) := by rw [← hH5]; exact upd_same
  have b5 := b4.same s5
  refine ⟨one, fun p6 n6 => ?_⟩
  have s6 : Same H5 (upd H5 p6 (.lst [V.str (Str.ofString "kept")])) := sm_upd n6
  generalize hH6 : upd H5 p6 (.lst [V.str (Str.ofString "kept")]) = H6 at s6
  have e6 : H6 p6 = some (.lst [V.str (Str.ofString "kept")]) := by rw [← hH6]; exact upd_same
  have b6 := b5.same s6
  refine ⟨two, fun p7 n7 => ?_⟩
  have s7 : Same H6 (upd H6 p7 (.tup [V.str (Str.ofString "even"), .ref p6])) := sm_upd n7
  generalize hH7 : upd H6 p7 (.tup [V.str (Str.ofString "even"), .ref p6]) = H7 at s7
  have e7 : H7 p7 = some (.tup [V.str (Str.ofString "even"), .ref p6]) := by rw [← hH7]; exact upd_same
  have b7 := b6.same s7
  refine ⟨(show 9 ≤ sizeLine by decide), fun l nl => ?_⟩
  have s8 : Same H7 (upd H7 l (.lst [V.non, .ref p1, .str (Str.ofString "even"), .ref p2, .ref p3, .ref p4, .ref p5, .int 5, .ref p7])) := sm_upd nl
  have b8 := b7.same s8
  refine ⟨r, a, l, ns, _, rfl, upd_same, b7.row.ne nl, (show 0 < 9 by decide), (show 9 ≤ 1000 by decide), hns, b8.row, fun i y H9 hy sb9 hR9 => ?_⟩
  have x79 : Xt r H7 H9 := (Xt.same s8).trans (.sb sb9)
  have s67 := s6.trans s7
  have s57 := s5.trans s67
  have s47 := s4.trans s57
  have s37 := s3.trans s47
  have s27 := s2.trans s37
  have up : ∀ {p : Addr} {xs : List V}, H7 p = some (.tup xs) → ∀ H', Xt r H9 H' → H' p = some (.tup xs) := fun {p xs} e H' x => xt_tup (x79.trans x) (b7.row.tup_ne e) e
  refine ⟨r, wy, bs, D', b8.sb sb9 hR9, y, fun H' x => ?_, _, _, _, _, _, _, _, _, _, _, _, _, _, rfl⟩
  have hm := List.mem_of_getElem? hy
  simp only [List.mem_cons, List.not_mem_nil, or_false] at hm
  rcases hm with e | e | e | e | e | e | e | e | e <;> rw [e]
  · exact .kind .non (by decide)
  · exact .kind (.lst (xt_lst (x79.trans x) (b.row.ne n1) (s27 _ _ e1))) (by decide)
  · exact .kind (.str _) (by decide)
  · exact .order (up (s37 _ _ e2) H' x) (by decide +kernel) (by decide +kernel) (by decide +kernel)
  · exact .order (up (s47 _ _ e3) H' x) (by decide +kernel) (by decide +kernel) (by decide +kernel)
  · refine .item (up (s57 _ _ e4) H' x) (show 1 ≤ 100 by decide) (fun j z hz => ?_) (by decide +kernel)
    have := List.mem_of_getElem? hz
    simp only [List.mem_cons, List.not_mem_nil, or_false] at this
    rw [this]
    exact ⟨_, .str _⟩
  · refine .item (up (s67 _ _ e5) H' x) (show 1 ≤ 100 by decide) (fun j z hz => ?_) (by decide +kernel)
    have := List.mem_of_getElem? hz
    simp only [List.mem_cons, List.not_mem_nil, or_false] at this
    rw [this]
    exact ⟨_, .non⟩
  · exact .kind (.int _) (by decide)
  · refine .item (up e7 H' x) (show 2 ≤ 100 by decide) (fun j z hz => ?_) ?_
    · have := List.mem_of_getElem? hz
      simp only [List.mem_cons, List.not_mem_nil, or_false] at this
      rcases this with e | e <;> rw [e]
      · exact ⟨_, .str _⟩
      · exact ⟨_, .lst (xt_lst (x79.trans x) (b5.row.ne n6) (s7 _ _ e6))⟩
    · show (strIn (.str (Str.ofString "even")) PRO && (false && true)) = false
      rw [Bool.false_and, Bool.and_false]
def I14 (env : Env) (K : PySem.W.Frag) (Pt a : Addr) (ns : List Int) (σ : L2.St) (H : Hp) : Prop := ∃ r wy bs D, B2 K Pt a ns H r wy bs D ∧ ∃ v l f0 f1 f2 f3 f4, Sta r H (fun H' => PromsBad H' v) ∧ H l = some (.lst [.ref f0, .ref f1, .ref f2, .ref f3, .ref f4]) ∧ l ≠ r ∧
  LamAt env H (ll 14 0) f0 ∧ LamAt env H (ll 14 1) f1 ∧ LamAt env H (ll 14 2) f2 ∧ LamAt env H (ll 14 3) f3 ∧ LamAt env H (ll 14 4) f4 ∧ ∃ y5 y7 y8 y9 y10 y11 y12 y13 y15 y16 y17 y18,
  σ = f19 (some (.ref a)) (some (.ref r)) (some (.str wy)) (some (tv bs)) (some (.ref D)) y5 (some (.ref l)) y7 y8 y9 y10 y11 y12 y13 (some v) y15 y16 y17 y18
theorem ph14 (L : Lw P w K mg base c CV cL Pt) : Ph (LX P w K mg base f cL A outer s H0 E) (ls 14) (I13 K Pt a ns) (I14 (LX P w K mg base f cL A outer s H0 E).env K Pt a ns) := by
  refine ⟨_, ps_set (i := 6) sc_law.nd rfl (.inl rfl) (pe_lst (pa_cons (pe_l L lk_14_0 lb_14_0) (pa_cons (pe_l L lk_14_1 lb_14_1) (pa_cons (pe_l L lk_14_2 lb_14_2) (pa_cons (pe_l L lk_14_3 lb_14_3) (pa_cons (pe_l L lk_14_4 lb_14_4) pa_nil)))))), fun D σ H i => ?_⟩
  obtain ⟨r, wy, bs, D', b, v, bad, y5, y6, y7, y8, y9, y10, y11, y12, y13, y15, y16, y17, y18, rfl⟩ := i
  refine ⟨b.tabs, fun f0 H1 e1 t1 a0 => ⟨t1, fun f1 H2 e2 t2 a1 => ⟨t2, fun f2 H3 e3 t3 a2 => ⟨t3, fun f3 H4 e4 t4 a3 => ⟨t4, fun f4 H5 e5 t5 a4 => ⟨(show 5 ≤ sizeLine by decide), fun l nl => ?_⟩⟩⟩⟩⟩⟩
  have e25 := e2.trans (e3.trans (e4.trans e5))
  have e15 := e1.trans e25
  have b5 := b.ext e15 t5
  have s6 : Same H5 (upd H5 l (.lst [.ref f0, .ref f1, .ref f2, .ref f3, .ref f4])) := sm_upd nl
  have n6 := ExtN.of s6
  exact ⟨r, wy, bs, D', b5.same s6, v, l, f0, f1, f2, f3, f4, bad.xt ((Xt.ext e15).trans (.same s6)), upd_same, b5.row.ne nl, (a0.ext e25).ext n6, (a1.ext (e3.trans (e4.trans e5))).ext n6, (a2.ext (e4.trans e5)).ext n6, (a3.ext e5).ext n6, a4.ext n6, _, _, _, _, _, _, _, _, _, _, _, _, rfl⟩
theorem ph15 (L : Lw P w K mg base c CV cL Pt) (hr : Room 8 (LX P w K mg base f cL A outer s H0 E).A) (hns : ns.length ≤ 1000) : Ph (LX P w K mg base f cL A outer s H0 E) (ls 15) (I14 (LX P w K mg base f cL A outer s H0 E).env K Pt a ns) (I2 K Pt a ns) := by
  refine ⟨_, ps_if (pt_cmpR op_ne (pe_wrong L.D L.M L.k hr (pa_cons (Df.pe L.G.pick (hr.mono (by decide)) (pa_cons (pv 1) (pa_cons (pv 6) pa_nil))) pa_nil)) pe_str (nomark _)) (pss_one (ps_ret pe_bl)) pss_nil, fun D σ H i => ?_⟩
  obtain ⟨r, wy, bs, D', b, v, l, f0, f1, f2, f3, f4, bad, el, nlr, a0, a1, a2, a3, a4, y5, y7, y8, y9, y10, y11, y12, y13, y15, y16, y17, y18, rfl⟩ := i
  refine ⟨.ref r, rfl, .ref l, rfl, r, a, l, ns, _, rfl, el, nlr, (show 0 < 5 by decide), (show 5 ≤ 1000 by decide), hns, b.row, fun i y H5 hy sb5 hR5 => ?_⟩
  have b5 := b.sb sb5 hR5
  have x5 : Xt r H H5 := .sb sb5
  have bad5 : PromsBad H5 v := bad H5 x5
  have fin : ∀ H2, Same H5 H2 → ∃ k, V.bl (!decide (V.str Ec.pros.txt = V.str (Str.ofString "promises"))) = .bl k ∧ if k = true then D.rt (.bl false) H2 else I2 K Pt a ns (f19 (some (.ref a)) (some (.ref r)) (some (.str wy)) (some (tv bs)) (some (.ref D')) y5 (some (.ref l)) y7 y8 y9 y10 y11 y12 y13 (some v) y15 y16 y17 y18) H2 := fun H2 s2 =>
    ⟨_, rfl, ifF (by decide +kernel) ⟨r, wy, bs, D', b5.same s2, _, _, _, _, _, _, _, _, _, _, _, _, _, _, rfl⟩⟩
  have hm := List.mem_of_getElem? hy
  simp only [List.mem_cons, List.not_mem_nil, or_false] at hm
  rcases hm with e | e | e | e | e <;> rw [e]
  · exact hand0 .pros (lp_14_0 L) (lamAt_xt b.row x5 a0) rfl (fun E' Qn q => ⟨v, rfl, v, rfl, bad5, q⟩) fun H2 s2 => ⟨rfl, fin H2 s2⟩
  · exact hand0 .pros (lp_14_1 L) (lamAt_xt b.row x5 a1) rfl (fun E' Qn q => ⟨v, rfl, v, rfl, bad5, q⟩) fun H2 s2 => ⟨rfl, fin H2 s2⟩
  · exact hand0 .pros (lp_14_2 L) (lamAt_xt b.row x5 a2) rfl (fun E' Qn q => ⟨v, rfl, v, rfl, bad5, q⟩) fun H2 s2 => ⟨rfl, fin H2 s2⟩
  · exact hand0 .pros (lp_14_3 L) (lamAt_xt b.row x5 a3) rfl (fun E' Qn q => ⟨v, rfl, v, rfl, bad5, q⟩) fun H2 s2 => ⟨rfl, fin H2 s2⟩
  · exact hand0 .pros (lp_14_4 L) (lamAt_xt b.row x5 a4) rfl (fun E' Qn q => ⟨v, rfl, v, rfl, bad5, q⟩) fun H2 s2 => ⟨rfl, fin H2 s2⟩
/-! ### a bad number -/
def I16 (K : PySem.W.Frag) (Pt a : Addr) (ns : List Int) (σ : L2.St) (H : Hp) : Prop := ∃ r wy bs D, B2 K Pt a ns H r wy bs D ∧ ∃ v, (∃ t, ∀ H', Kd H' v t) ∧ intIn v 1 60 = false ∧ ∃ y5 y6 y7 y8 y9 y10 y11 y12 y13 y14 y16 y17 y18,
  σ = f19 (some (.ref a)) (some (.ref r)) (some (.str wy)) (some (tv bs)) (some (.ref D)) y5 y6 y7 y8 y9 y10 y11 y12 y13 y14 (some v) y16 y17 y18
theorem ph16 (L : Lw P w K mg base c CV cL Pt) (hr : Room 8 (LX P w K mg base f cL A outer s H0 E).A) (hns : ns.length ≤ 1000) : Ph (LX P w K mg base f cL A outer s H0 E) (ls 16) (I2 K Pt a ns) (I16 K Pt a ns) := by
  refine ⟨_, ps_set (i := 15) sc_law.nd rfl (.inr rfl) (Df.pe L.G.pick (hr.mono (by decide)) (pa_cons (pv 1) (pa_cons (pe_lst (pa_cons pe_int (pa_cons pe_int (pa_cons (pe_un un_neg pe_int) (pa_cons pe_non (pa_cons pe_bl (pa_cons pe_str pa_nil))))))) pa_nil))), fun D σ H i => ?_⟩
  obtain ⟨r, wy, bs, D', b, y5, y6, y7, y8, y9, y10, y11, y12, y13, y14, y15, y16, y17, y18, rfl⟩ := i
  refine ⟨.ref r, rfl, 1, rfl, (show 6 ≤ sizeLine by decide), fun l nl => ?_⟩
  have s1 : Same H (upd H l (.lst [V.int 0, .int 61, .int (-1), .non, .bl true, .str (Str.ofString "1")])) := sm_upd nl
  have b1 := b.same s1
  refine ⟨r, a, l, ns, _, rfl, upd_same, b.row.ne nl, (show 0 < 6 by decide), (show 6 ≤ 1000 by decide), hns, b1.row, fun i y H1 hy sb1 hR1 => ?_⟩
  have bad : (∃ t, ∀ H', Kd H' y t) ∧ intIn y 1 60 = false := by
    have hm := List.mem_of_getElem? hy
    simp only [List.mem_cons, List.not_mem_nil, or_false] at hm
    rcases hm with e | e | e | e | e | e <;> rw [e]
    · exact ⟨⟨_, fun _ => .int _⟩, by decide⟩
    · exact ⟨⟨_, fun _ => .int _⟩, by decide⟩
    · exact ⟨⟨_, fun _ => .int _⟩, by decide⟩
    · exact ⟨⟨_, fun _ => .non⟩, rfl⟩
    · exact ⟨⟨_, fun _ => .bl _⟩, rfl⟩
    · exact ⟨⟨_, fun _ => .str _⟩, rfl⟩
  exact ⟨r, wy, bs, D', b1.sb sb1 hR1, y, bad.1, bad.2, _, _, _, _, _, _, _, _, _, _, _, _, _, rfl⟩
theorem ph17 (L : Lw P w K mg base c CV cL Pt) (hr : Room 8 (LX P w K mg base f cL A outer s H0 E).A) (hns : ns.length ≤ 1000) : Ph (LX P w K mg base f cL A outer s H0 E) (ls 17) (I16 K Pt a ns) (I2 K Pt a ns) := by
  refine ⟨_, ps_if (pt_cmpR op_ne (pe_wrong L.D L.M L.k hr (pa_cons (Df.pe L.G.pick (hr.mono (by decide)) (pa_cons (pv 1) (pa_cons (pe_lst (pa_cons (pe_l L lk_17_0 lb_17_0) (pa_cons (pe_l L lk_17_1 lb_17_1) pa_nil))) pa_nil))) pa_nil)) pe_str (nomark _)) (pss_one (ps_ret pe_bl)) pss_nil, fun D σ H i => ?_⟩
  obtain ⟨r, wy, bs, D', b, v, ⟨tk, kd⟩, hv, y5, y6, y7, y8, y9, y10, y11, y12, y13, y14, y16, y17, y18, rfl⟩ := i
  refine ⟨.ref r, rfl, b.tabs, fun f0 H1 e1 t1 a0 => ⟨t1, fun f1 H2 e2 t2 a1 => ⟨(show 2 ≤ sizeLine by decide), fun l nl => ?_⟩⟩⟩
  have e12 := e1.trans e2
  have b1 := b.ext e1 t1
  have b2 := b.ext e12 t2
  have s3 : Same H2 (upd H2 l (.lst [.ref f0, .ref f1])) := sm_upd nl
  have b3 := b2.same s3
  refine ⟨r, a, l, ns, _, rfl, upd_same, b2.row.ne nl, (show 0 < 2 by decide), (show 2 ≤ 1000 by decide), hns, b3.row, fun i y H5 hy sb5 hR5 => ?_⟩
  have b5 := b3.sb sb5 hR5
  have x25 : Xt r H2 H5 := (Xt.same s3).trans (.sb sb5)
  have x15 : Xt r H1 H5 := (Xt.ext e2).trans x25
  have fin : ∀ H2, Same H5 H2 → ∃ k, V.bl (!decide (V.str Ec.num.txt = V.str (Str.ofString "number"))) = .bl k ∧ if k = true then D.rt (.bl false) H2 else I2 K Pt a ns (f19 (some (.ref a)) (some (.ref r)) (some (.str wy)) (some (tv bs)) (some (.ref D')) y5 y6 y7 y8 y9 y10 y11 y12 y13 y14 (some v) y16 y17 y18) H2 := fun H2 s2 =>
    ⟨_, rfl, ifF (by decide +kernel) ⟨r, wy, bs, D', b5.same s2, _, _, _, _, _, _, _, _, _, _, _, _, _, _, rfl⟩⟩
  have hm := List.mem_of_getElem? hy
  simp only [List.mem_cons, List.not_mem_nil, or_false] at hm
  rcases hm with e | e <;> rw [e]
  · exact hand0 .num (lp_17_0 L) (lamAt_xt b1.row x15 a0) rfl (fun E' Qn q => ⟨.str wy, rfl, v, rfl, .str wy, v, _, rfl, .str _, .inr ⟨way_in wy b.way, tk, kd _, hv, q H5 (Same.refl _)⟩⟩) fun H2 s2 => ⟨rfl, fin H2 s2⟩
  · exact hand0 .num (lp_17_1 L) (lamAt_xt b2.row x25 a1) rfl (fun E' Qn q => ⟨.str wy, rfl, v, rfl, .str wy, v, _, rfl, .str _, .inr ⟨way_in wy b.way, tk, kd _, hv, q H5 (Same.refl _)⟩⟩) fun H2 s2 => ⟨rfl, fin H2 s2⟩
end
end Rv

/-! ## RvLaw5 -/
/-! law's last part: the bad table; law as a whole. -/
namespace Rv
open PySem PySem.Spec PyProof.Rows L2 LamX RvL
section
variable {P : Program} {w : World} {K : PySem.W.Frag} {mg : Str → Option Value} {base : Heap} {c : Cs} {CV cL Pt f : Addr} {A : Around} {outer : List Env} {s : Shared} {H0 : Hp} {E : XK} {a : Addr} {ns : List Int}
def I18 (K : PySem.W.Frag) (Pt a : Addr) (ns : List Int) (σ : L2.St) (H : Hp) : Prop := ∃ r wy bs D, B2 K Pt a ns H r wy bs D ∧ ∃ (q : Addr) (ts : List Bool) (k : Nat), ts.length = 14 ∧ k < 14 ∧ H q = some (.tup (voV ts)) ∧ ∃ y5 y6 y7 y8 y9 y10 y11 y12 y13 y14 y15 y18,
  σ = f19 (some (.ref a)) (some (.ref r)) (some (.str wy)) (some (tv bs)) (some (.ref D)) y5 y6 y7 y8 y9 y10 y11 y12 y13 y14 y15 (some (.ref q)) (some (.int k)) y18
theorem ph18 (L : Lw P w K mg base c CV cL Pt) (hr : Room 8 (LX P w K mg base f cL A outer s H0 E).A) (hns : ns.length ≤ 1000) : Ph (LX P w K mg base f cL A outer s H0 E) (ls 18) (I2 K Pt a ns) (I18 K Pt a ns) := by
  refine ⟨_, ps_par (i := 16) (j := 17) rfl sc_law.nd rfl rfl (by decide) rfl rfl (pa_cons (Df.pe L.G.as_table (hr.mono (by decide)) (pa_cons (pv 4) pa_nil)) (pa_cons (Df.pe L.G.taken (hr.mono (by decide)) (pa_cons (pv 1) (pa_cons pe_int pa_nil))) pa_nil)) rfl, fun D σ H i => ?_⟩
  obtain ⟨r, wy, bs, D', b, y5, y6, y7, y8, y9, y10, y11, y12, y13, y14, y15, y16, y17, y18, rfl⟩ := i
  obtain ⟨kvs, eD, told⟩ := b.told
  refine ⟨.ref D', rfl, D', kvs, rfl, eD, told, fun H1 q ts s1 nq hl eq => ?_⟩
  have b1 := b.same s1
  refine ⟨.ref r, rfl, r, a, 14, ns, rfl, by decide, by decide, hns, b1.row, fun k H2 hk sb2 hR2 => ?_⟩
  exact ⟨_, _, rfl, r, wy, bs, D', b1.sb sb2 hR2, q, ts, k, hl, by omega, xt_tup (.sb sb2) (b1.row.tup_ne eq) eq, _, _, _, _, _, _, _, _, _, _, _, _, rfl⟩
def I19 (K : PySem.W.Frag) (Pt a : Addr) (ns : List Int) (σ : L2.St) (H : Hp) : Prop := ∃ r wy bs D, B2 K Pt a ns H r wy bs D ∧ ∃ (q : Addr) (ts : List Bool) (k : Nat) (q9 : Addr) (y : V), ts.length = 14 ∧ k < 14 ∧ H q = some (.tup (voV ts)) ∧ H q9 = some (.tup ((voV ts).take k ++ [y] ++ (voV ts).drop (k + 1))) ∧ BadI r H y ∧ ∃ y5 y6 y7 y8 y9 y10 y11 y12 y13 y14 y15,
  σ = f19 (some (.ref a)) (some (.ref r)) (some (.str wy)) (some (tv bs)) (some (.ref D)) y5 y6 y7 y8 y9 y10 y11 y12 y13 y14 y15 (some (.ref q)) (some (.int k)) (some (.ref q9))
theorem ph19 (L : Lw P w K mg base c CV cL Pt) (hr : Room 8 (LX P w K mg base f cL A outer s H0 E).A) (hns : ns.length ≤ 1000) : Ph (LX P w K mg base f cL A outer s H0 E) (ls 19) (I18 K Pt a ns) (I19 K Pt a ns) := by
  refine ⟨_, ps_set (i := 18) sc_law.nd rfl (.inl rfl) (pe_op op_catA (pe_op op_catA (pe_slice sl_tupA (pv 16) po_none (po_some (pv 17)))
      (pe_tup (pa_cons (Df.pe L.G.pick (hr.mono (by decide)) (pa_cons (pv 1) (pa_cons (pe_lst (pa_cons pe_non (pa_cons pe_str (pa_cons pe_bl (pa_cons pe_int (pa_cons (pe_lst (pa_cons pe_str pa_nil)) pa_nil)))))) pa_nil))) pa_nil)))
    (pe_slice sl_tupA (pv 16) (po_some (pe_op op_add (pv 17) pe_int)) po_none)), fun D σ H i => ?_⟩
  obtain ⟨r, wy, bs, D', b, q, ts, k, hl, hk, eq, y5, y6, y7, y8, y9, y10, y11, y12, y13, y14, y15, y18, rfl⟩ := i
  have lv : (voV ts).length = 14 := by rw [List.length_map]; exact hl
  refine ⟨.ref q, rfl, .int k, rfl, k, rfl, rd_sl eq (cut_to (by omega)) fun H1 p1 s1 e1 => ?_⟩
  have b1 := b.same s1
  refine ⟨.ref r, rfl, (show 1 ≤ sizeLine by decide), fun p2 n2 => ⟨(show 5 ≤ sizeLine by decide), fun l nl => ?_⟩⟩
  have s2 : Same H1 (upd H1 p2 (.lst [V.str (Str.ofString "deny")])) := sm_upd n2
  have s3 : Same (upd H1 p2 (.lst [V.str (Str.ofString "deny")])) (upd (upd H1 p2 (.lst [V.str (Str.ofString "deny")])) l (.lst [V.non, .str (Str.ofString "+"), .bl true, .int 0, .ref p2])) := sm_upd nl
  have b2 := b1.same s2
  have b3 := b2.same s3
  refine ⟨r, a, l, ns, _, rfl, upd_same, b2.row.ne nl, (show 0 < 5 by decide), (show 5 ≤ 1000 by decide), hns, b3.row, fun i y H4 hy sb4 hR4 => ?_⟩
  have bad : BadI r H4 y := by
    refine BadI.xt (.sb sb4) ?_
    have hm := List.mem_of_getElem? hy
    simp only [List.mem_cons, List.not_mem_nil, or_false] at hm
    rcases hm with e | e | e | e | e <;> rw [e]
    · exact ⟨⟨_, .non, fun z => nomatch z⟩, by decide +kernel⟩
    · exact ⟨⟨_, .str _, fun z => nomatch z⟩, by decide +kernel⟩
    · exact ⟨⟨_, .bl _, fun z => nomatch z⟩, by decide +kernel⟩
    · exact ⟨⟨_, .int _, fun z => nomatch z⟩, by decide +kernel⟩
    · exact ⟨⟨_, .lst (s3 _ _ upd_same), fun z => b1.row.ne n2 (V.ref.inj z)⟩, rfl⟩
  have b4 := b3.sb sb4 hR4
  have x14 : Xt r H1 H4 := (Xt.same (s2.trans s3)).trans (.sb sb4)
  have e14 : H4 p1 = some (.tup ((voV ts).take k)) := xt_tup x14 (b1.row.tup_ne e1) e1
  have eq4 : H4 q = some (.tup (voV ts)) := xt_tup x14 (b1.row.tup_ne (s1 _ _ eq)) (s1 _ _ eq)
  refine ⟨(show 1 ≤ sizeLine by decide), fun p5 n5 => ?_⟩
  have s5 : Same H4 (upd H4 p5 (.tup [y])) := sm_upd n5
  refine rd_cat (s5 _ _ e14) upd_same (by rw [List.length_take, sizeLine_eq]; show min k _ + 1 ≤ _; omega) fun H6 p6 s6 e6 => ?_
  refine ⟨.ref q, rfl, .int k, rfl, k, 1, rfl, rfl, (k : Int) + 1, rfl, tn ?_⟩
  refine rd_sl (ys := (voV ts).drop (k + 1)) (s6 _ _ (s5 _ _ eq4)) (by rw [show (k : Int) + 1 = ((k + 1 : Nat) : Int) by omega]; exact cut_from (by omega)) fun H7 p7 s7 e7 => ?_
  refine rd_cat (s7 _ _ e6) e7 ?_ fun H8 p8 s8 e8 => ?_
  · rw [List.length_append, List.length_take, List.length_drop, sizeLine_eq]
    show min k _ + 1 + _ ≤ _
    omega
  · have sAll := s5.trans (s6.trans (s7.trans s8))
    exact ⟨r, wy, bs, D', b4.same sAll, q, ts, k, p8, y, hl, hk, sAll _ _ eq4, e8, bad.xt (.same sAll), _, _, _, _, _, _, _, _, _, _, _, rfl⟩
def I20 (K : PySem.W.Frag) (Pt a : Addr) (ns : List Int) (σ : L2.St) (H : Hp) : Prop := ∃ r wy bs D, B2 K Pt a ns H r wy bs D ∧ ∃ ill due, Due due ∧ Sta r H (fun H' => TabBad H' ill due) ∧ ∃ y5 y6 y7 y8 y9 y12 y13 y14 y15 y16 y17 y18,
  σ = f19 (some (.ref a)) (some (.ref r)) (some (.str wy)) (some (tv bs)) (some (.ref D)) y5 y6 y7 y8 y9 (some ill) (some due) y12 y13 y14 y15 y16 y17 y18
theorem ph20 (L : Lw P w K mg base c CV cL Pt) (hr : Room 8 (LX P w K mg base f cL A outer s H0 E).A) (hns : ns.length ≤ 1000) : Ph (LX P w K mg base f cL A outer s H0 E) (ls 20) (I19 K Pt a ns) (I20 K Pt a ns) := by
  refine ⟨_, ps_asg (Df.pe L.G.pick (hr.mono (by decide)) (pa_cons (pv 1) (pa_cons (pe_lst
      (pa_cons (pe_tup (pa_cons (pv 18) (pa_cons (pv 17) pa_nil)))
      (pa_cons (pe_tup (pa_cons (pe_callTy call_list_of rfl L.M.tlist boot_list (pa_cons (pv 16) pa_nil)) (pa_cons pe_non pa_nil)))
      (pa_cons (pe_tup (pa_cons pe_non (pa_cons pe_non pa_nil)))
      (pa_cons (pe_tup (pa_cons (pe_slice sl_tupA (pv 16) (po_some pe_int) po_none) (pa_cons pe_non pa_nil)))
      (pa_cons (pe_tup (pa_cons (pe_op op_catA (pv 16) (pe_tup (pa_cons pe_str pa_nil))) (pa_cons pe_non pa_nil))) pa_nil)))))) pa_nil)))
    (pg_tup rfl (pgs_cons (pg_name (i := 10) sc_law.nd rfl (.inr rfl)) (pgs_cons (pg_name (i := 11) sc_law.nd rfl (.inl rfl)) pgs_nil))), fun D σ H i => ?_⟩
  obtain ⟨r, wy, bs, D', b, q, ts, k, q9, y, hl, hk, eq, e9, bad, y5, y6, y7, y8, y9, y10, y11, y12, y13, y14, y15, rfl⟩ := i
  have lv : (voV ts).length = 14 := by rw [List.length_map]; exact hl
  have two : ∀ {x y : V}, ([x, y] : List V).length ≤ sizeLine := fun {x y} => (show 2 ≤ sizeLine by decide)
  refine ⟨.ref r, rfl, .ref q9, rfl, .int k, rfl, two, fun p1 n1 => ?_⟩
  have s1 : Same H (upd H p1 (.tup [.ref q9, .int k])) := sm_upd n1
  generalize hH1 : upd H p1 (.tup [V.ref q9, .int k]) = H1 at s1
  have e1 : H1 p1 = some (.tup [.ref q9, .int k]) := by rw [← hH1]; exact upd_same
  have b1 := b.same s1
  refine ⟨.ref q, rfl, q, voV ts, rfl, .inr (.inl (.inl (s1 _ _ eq))), fun l2 n2 => ⟨two, fun p2 m2 => ?_⟩⟩
  have s2a : Same H1 (upd H1 l2 (.lst (voV ts))) := sm_upd n2
  have s2b : Same (upd H1 l2 (.lst (voV ts))) (upd (upd H1 l2 (.lst (voV ts))) p2 (.tup [.ref l2, .non])) := sm_upd m2
  have s2 := s2a.trans s2b
  have nl2 : l2 ≠ r := b1.row.ne n2
  generalize hH2 : upd (upd H1 l2 (.lst (voV ts))) p2 (.tup [V.ref l2, .non]) = H2 at s2 s2b
  have el2 : H2 l2 = some (.lst (voV ts)) := s2b _ _ upd_same
  have e2 : H2 p2 = some (.tup [.ref l2, .non]) := by rw [← hH2]; exact upd_same
  have b2 := b1.same s2
  refine ⟨two, fun p3 n3 => ?_⟩
  have s3 : Same H2 (upd H2 p3 (.tup [.non, .non])) := sm_upd n3
  generalize hH3 : upd H2 p3 (.tup [V.non, .non]) = H3 at s3
  have e3 : H3 p3 = some (.tup [.non, .non]) := by rw [← hH3]; exact upd_same
  have b3 := b2.same s3
  have s03 := s1.trans (s2.trans s3)
  refine ⟨.ref q, rfl, 1, rfl, tn ?_⟩
  refine rd_sl (ys := (voV ts).drop 1) (s03 _ _ eq) (cut_from (k := 1) (by omega)) fun H4 l4 s4 el4 => ⟨two, fun p4 m4 => ?_⟩
  have s4b : Same H4 (upd H4 p4 (.tup [.ref l4, .non])) := sm_upd m4
  generalize hH5 : upd H4 p4 (.tup [V.ref l4, .non]) = H5 at s4b
  have e4 : H5 p4 = some (.tup [.ref l4, .non]) := by rw [← hH5]; exact upd_same
  have el4' : H5 l4 = some (.tup ((voV ts).drop 1)) := s4b _ _ el4
  have s35 := s4.trans s4b
  have b5 := b3.same s35
  refine ⟨.ref q, rfl, (show 1 ≤ sizeLine by decide), fun l6 n6 => ?_⟩
  have s6 : Same H5 (upd H5 l6 (.tup [V.str (Str.ofString "deny")])) := sm_upd n6
  refine rd_cat (s6 _ _ (s35 _ _ (s03 _ _ eq))) upd_same (by rw [lv, sizeLine_eq]; show 14 + 1 ≤ _; omega) fun H7 l7 s7 el7 => ⟨two, fun p5 m5 => ?_⟩
  have s7b : Same H7 (upd H7 p5 (.tup [.ref l7, .non])) := sm_upd m5
  generalize hH8 : upd H7 p5 (.tup [V.ref l7, .non]) = H8 at s7b
  have e5 : H8 p5 = some (.tup [.ref l7, .non]) := by rw [← hH8]; exact upd_same
  have el7' : H8 l7 = some (.tup (voV ts ++ [V.str (Str.ofString "deny")])) := s7b _ _ el7
  have s58 := s6.trans (s7.trans s7b)
  have b8 := b5.same s58
  refine ⟨(show 5 ≤ sizeLine by decide), fun l nl => ?_⟩
  have s9 : Same H8 (upd H8 l (.lst [.ref p1, .ref p2, .ref p3, .ref p4, .ref p5])) := sm_upd nl
  have b9 := b8.same s9
  refine ⟨r, a, l, ns, _, rfl, upd_same, b8.row.ne nl, (show 0 < 5 by decide), (show 5 ≤ 1000 by decide), hns, b9.row, fun i z H10 hz sb10 hR10 => ?_⟩
  have b10 := b9.sb sb10 hR10
  have x8 : Xt r H8 H10 := (Xt.same s9).trans (.sb sb10)
  have s38 := s35.trans s58
  have s28 := s3.trans s38
  have s18 := s2.trans s28
  have s08 := s1.trans s18
  have fin : ∀ (p : Addr) (ill due : V), Due due → H8 p = some (.tup [ill, due]) → Sta r H10 (fun H' => TabBad H' ill due) →
      gTup K 2 (gCons (gName 10) (gCons (gName 11) gNil)) (.ref p) (f19 (some (.ref a)) (some (.ref r)) (some (.str wy)) (some (tv bs)) (some (.ref D')) y5 y6 y7 y8 y9 y10 y11 y12 y13 y14 y15 (some (.ref q)) (some (.int k)) (some (.ref q9))) H10 (I20 K Pt a ns) := fun p ill due hd ep st =>
    ⟨p, _, rfl, .inl (.inl (xt_tup x8 (b8.row.tup_ne ep) ep)), rfl, _, _, rfl, _, _, rfl, rfl, r, wy, bs, D', b10, ill, due, hd, st, _, _, _, _, _, _, _, _, _, _, _, _, rfl⟩
  have hm := List.mem_of_getElem? hz
  simp only [List.mem_cons, List.not_mem_nil, or_false] at hm
  rcases hm with e | e | e | e | e <;> rw [e]
  · refine fin p1 _ _ (.inr ⟨k, rfl⟩) (s18 _ _ e1) fun H' x => ?_
    have e8 := s08 _ _ e9
    have e10 : H10 q9 = _ := xt_tup x8 (b8.row.tup_ne e8) e8
    obtain ⟨⟨t, kd⟩, hb⟩ := bad.xt (((Xt.same s08).trans x8).trans x)
    refine .item (i := k) (y := y) (xt_tup x (b10.row.tup_ne e10) e10) ?_ (fun j z0 hj hz0 => ?_) ?_ kd.1 hb
    · rw [List.length_append, List.length_append, List.length_take, List.length_drop]
      show min k (voV ts).length + 1 + ((voV ts).length - (k + 1)) = 14
      omega
    · rw [List.append_assoc, List.getElem?_append_left (by rw [List.length_take]; omega), List.getElem?_take_of_lt hj, List.getElem?_map] at hz0
      obtain ⟨b0, _, h0⟩ := Option.map_eq_some_iff.mp hz0
      rw [← h0]
      exact vo_in b0
    · rw [List.append_assoc, List.getElem?_append_right (by rw [List.length_take]; omega), List.length_take, lv, Nat.min_eq_left (by omega), Nat.sub_self]
      rfl
  · exact fin p2 _ _ (.inl rfl) (s28 _ _ e2) fun H' x => .kind (.lst (xt_lst x nl2 (xt_lst x8 nl2 (s28 _ _ el2)))) (by decide)
  · exact fin p3 _ _ (.inl rfl) (s38 _ _ e3) fun H' x => .kind .non (by decide)
  · have ee : H10 l4 = _ := xt_tup x8 (b8.row.tup_ne (s58 _ _ el4')) (s58 _ _ el4')
    exact fin p4 _ _ (.inl rfl) (s58 _ _ e4) fun H' x => .len (xt_tup x (b10.row.tup_ne ee) ee) (by rw [List.length_drop]; omega)
  · have ee : H10 l7 = _ := xt_tup x8 (b8.row.tup_ne el7') el7'
    exact fin p5 _ _ (.inl rfl) e5 fun H' x => .len (xt_tup x (b10.row.tup_ne ee) ee) (by rw [List.length_append, lv]; decide)
theorem ph21 {R : VK} (hR : ∀ H', R (.bl true) H') (L : Lw P w K mg base c CV cL Pt) (hr : Room 8 (LX P w K mg base f cL A outer s H0 E).A) (hns : ns.length ≤ 1000) : Phs (LX P w K mg base f cL A outer s H0 E) [ls 21] (I20 K Pt a ns) R := by
  refine ⟨_, pss_one (ps_ret (pe_cmpR (op_eqD hr.units) (pe_wrong L.D L.M L.k hr (pa_cons (Df.pe L.G.pick (hr.mono (by decide)) (pa_cons (pv 1) (pa_cons (pe_lst (pa_cons (pe_l L lk_21_0 lb_21_0) (pa_cons (pe_l L lk_21_1 lb_21_1) pa_nil))) pa_nil))) pa_nil)) (pe_tup (pa_cons pe_str (pa_cons (pv 11) pa_nil))) (nomark _))), fun D σ H i eR => ?_⟩
  obtain ⟨r, wy, bs, D', b, ill, due, hd, st, y5, y6, y7, y8, y9, y12, y13, y14, y15, y16, y17, y18, rfl⟩ := i
  refine ⟨.ref r, rfl, b.tabs, fun f0 H1 e1 t1 a0 => ⟨t1, fun f1 H2 e2 t2 a1 => ⟨(show 2 ≤ sizeLine by decide), fun l nl => ?_⟩⟩⟩
  have e12 := e1.trans e2
  have b1 := b.ext e1 t1
  have b2 := b.ext e12 t2
  have s3 : Same H2 (upd H2 l (.lst [.ref f0, .ref f1])) := sm_upd nl
  have b3 := b2.same s3
  refine ⟨r, a, l, ns, _, rfl, upd_same, b2.row.ne nl, (show 0 < 2 by decide), (show 2 ≤ 1000 by decide), hns, b3.row, fun i y H5 hy sb5 hR5 => ?_⟩
  have x25 : Xt r H2 H5 := (Xt.same s3).trans (.sb sb5)
  have x15 : Xt r H1 H5 := (Xt.ext e2).trans x25
  have bad : TabBad H5 ill due := st H5 ((Xt.ext e1).trans x15)
  obtain ⟨dd, dp, sh, eqv⟩ := due_dp hd (Str.ofString "table") (by decide +kernel) K
  have fin : ∀ H2 p, Same H5 H2 → H2 p = some (.tup [V.str Ec.tab.txt, due]) → tTup (tCons (tC (.str (Str.ofString "table"))) (tCons (tVar 11) tNil)) (f19 (some (.ref a)) (some (.ref r)) (some (.str wy)) (some (tv bs)) (some (.ref D')) y5 y6 y7 y8 y9 (some ill) (some due) y12 y13 y14 y15 y16 y17 y18) H2 fun y H3 => rEqD K (.ref p) y H3 D.rt := fun H2 p s2 ep => by
    refine ⟨due, rfl, (show 2 ≤ sizeLine by decide), fun p2 np2 => ?_⟩
    have s3 : Same H2 (upd H2 p2 (.tup [V.str (Str.ofString "table"), due])) := sm_upd np2
    refine ⟨.tuple [.str (Str.ofString "table"), dd], .tuple [.str (Str.ofString "table"), dd], .tup (.inl (.inl (s3 _ _ ep))) (.cons (.str _) (.cons (dp _) .nil)), .tup (.inl (.inl upd_same)) (.cons (.str _) (.cons (dp _) .nil)), sh, sh, ?_⟩
    rw [eqv, eR]
    exact hR _
  have hm := List.mem_of_getElem? hy
  simp only [List.mem_cons, List.not_mem_nil, or_false] at hm
  rcases hm with e | e <;> rw [e]
  · exact handX .tab (lp_21_0 L) (lamAt_xt b1.row x15 a0) rfl (fun E' Qn q => ⟨ill, rfl, ill, .non, rfl, .inl ⟨due, bad, q⟩⟩) fin
  · exact handX .tab (lp_21_1 L) (lamAt_xt b2.row x25 a1) rfl (fun E' Qn q => ⟨ill, rfl, ill, due, rfl, bad, q⟩) fin
/-- law's promise: a list of ints is handed in, True comes out -/
def spLaw (K : PySem.W.Frag) (Pt : Addr) : Sp := fun vs H Q _ => ∃ (a : Addr) (ns : List Int), vs = [.ref a] ∧ SqL K H a (ns.map V.int) ∧ ns.length ≤ 63 ∧ Tabs (LT Pt) H ∧ ∀ H', Q (.bl true) H'
theorem ok_law {dV kV doc pm ct oc : Value} {an od : Option Addr} {osl : Array (Option Value)} (lk : K.lookup f = some ⟨oc, od, .func (PySem.W.fnOf "law" "law" (defArgs s_law) (defBody s_law) (defScope s_law) dV kV doc pm an (.ref cL) ct), osl⟩) (hcd : PySem.W.codeIn K (.ref cL) "law" = true)
    (L : Lw P w K mg base c CV cL Pt) : FnOk P w K mg base CX0 9 f (PySem.W.fnOf "law" "law" (defArgs s_law) (defBody s_law) (defScope s_law) dV kV doc pm an (.ref cL) ct) ["_law_script"] (spLaw K Pt) := by
  refine fn_of lk hcd sc_law (fun vs H Q E h => ?_) (fun A outer s H vs Q E hr h => ?_)
  · obtain ⟨a, ns, rfl, _⟩ := h
    rfl
  · obtain ⟨a, ns, rfl, hA, hl, hT, q⟩ := h
    have hns : ns.length ≤ 1000 := by omega
    have hr8 : Room 8 (LX P w K mg base f cL A outer s H E).A := hr
    have ph : Phs (LX P w K mg base f cL A outer s H E) (defBody s_law) (I0 K Pt a ns) Q :=
      ph_cons ph0 (ph_cons (ph1 L hr8 hns) (ph_cons (ph2 L hr8 hns) (ph_cons (ph3 L) (ph_cons (ph4 L hr8 hns) (ph_cons (ph5 L hr8 hns) (ph_cons (ph6 L hr8 hns) (ph_cons (ph7 L hr8 hns) (ph_cons ph8 (ph_cons (ph9 L) (ph_cons (ph10 L hr8 hns)
        (ph_cons (ph11 L hr8 hns) (ph_cons (ph12 L hr8 hns) (ph_cons (ph13 L hr8 hns) (ph_cons (ph14 L) (ph_cons (ph15 L hr8 hns) (ph_cons (ph16 L hr8 hns) (ph_cons (ph17 L hr8 hns) (ph_cons (ph18 L hr8 hns) (ph_cons (ph19 L hr8 hns) (ph_cons (ph20 L hr8 hns) (ph21 q L hr8 hns)))))))))))))))))))))
    obtain ⟨t, ht, hq⟩ := ph
    exact ⟨t, ht.nox, hq _ _ _ ⟨rfl, hA, hT⟩ rfl⟩
end
end Rv

/-! ## RvPg -/
/-! The contracts from the defs as the top left them. Printed by gen_end.py. -/
namespace Rv
open PySem PySem.Spec PyProof.Rows L2 LamX RvL
structure Ds (K : PySem.W.Frag) (mg : Str → Option Value) : Prop where
  is_voice : DefAt K mg "is_voice" s_is_voice ["value"]
  is_in : DefAt K mg "is_in" s_is_in ["value", "least", "most"]
  need_number : DefAt K mg "need_number" s_need_number ["value", "least", "most"]
  need_way : DefAt K mg "need_way" s_need_way ["way"]
  need_row : DefAt K mg "need_row" s_need_row ["value"]
  need_both : DefAt K mg "need_both" s_need_both ["way", "row"]
  answer : DefAt K mg "answer" s_answer ["way", "row"]
  matters : DefAt K mg "matters" s_matters ["way", "row"]
  table_of : DefAt K mg "table_of" s_table_of ["way"]
  count_allowed : DefAt K mg "count_allowed" s_count_allowed ["way", "length"]
  power : DefAt K mg "power" s_power ["way", "length"]
  need_promise : DefAt K mg "need_promise" s_need_promise ["promise"]
  need_promises : DefAt K mg "need_promises" s_need_promises ["wanted"]
  holds : DefAt K mg "holds" s_holds ["way", "promise"]
  rows_of : DefAt K mg "rows_of" s_rows_of ["length"]
  short_rows : DefAt K mg "short_rows" s_short_rows ["most"]
  need_table : DefAt K mg "need_table" s_need_table ["table"]
  keeps : DefAt K mg "keeps" s_keeps ["table", "promise"]
  write_row : DefAt K mg "write_row" s_write_row ["row"]
  write_table : DefAt K mg "write_table" s_write_table ["table"]
  can_hold : DefAt K mg "can_hold" s_can_hold ["wanted"]
  keepers : DefAt K mg "keepers" s_keepers ["wanted"]
  clashes : DefAt K mg "clashes" s_clashes ["wanted"]
  can_add : DefAt K mg "can_add" s_can_add ["wanted"]
  count_tables : DefAt K mg "count_tables" s_count_tables ["wanted"]
  told_by : DefAt K mg "told_by" s_told_by ["small"]
  goes : DefAt K mg "goes" s_goes ["told"]
  is_parts : DefAt K mg "is_parts" s_is_parts ["small"]
  parts_answer : DefAt K mg "parts_answer" s_parts_answer ["small", "row"]
  l_taken : DefAt K mg "_law_taken" s_l_taken ["_law_row_here", "_law_many"]
  l_pick : DefAt K mg "_law_pick" s_l_pick ["_law_row_here", "_law_kinds"]
  l_ways : DefAt K mg "_law_ways" s_l_ways []
  l_turned : DefAt K mg "_law_turned" s_l_turned ["_law_text"]
  l_answer : DefAt K mg "_law_answer" s_l_answer ["_law_way", "_law_text"]
  l_rows : DefAt K mg "_law_rows" s_l_rows ["_law_length"]
  l_short : DefAt K mg "_law_short" s_l_short ["_law_most"]
  l_row : DefAt K mg "_law_row" s_l_row ["_law_row_here", "_law_most"]
  l_word : DefAt K mg "_law_word" s_l_word ["_law_sign"]
  l_voices : DefAt K mg "_law_voices" s_l_voices ["_law_text"]
  l_table : DefAt K mg "_law_table" s_l_table ["_law_row_here"]
  l_as_table : DefAt K mg "_law_as_table" s_l_as_table ["_law_told"]
  l_wrong : DefAt K mg "_law_wrong" s_l_wrong ["_law_work"]
  desk : ∃ (C fI : Addr) (fdI : FuncData), Mk K C fI ∧ Fun K "__init__" "Desk.__init__" s_Desk_init fI fdI ∧ mg "Desk" = some (.ref C)
section
variable {P : Program} {w : World} {K : PySem.W.Frag} {mg : Str → Option Value} {base : Heap} {c : Cs}
theorem pg_mk (M : Md P K mg c) (d : Ds K mg) : Pg P w K mg base c := by
  have is_voice := ok_is_voice (w := w) (base := base) M d.is_voice
  have is_in := ok_is_in (w := w) (base := base) M d.is_in
  have need_number := ok_need_number M d.need_number is_in
  have need_way := ok_need_way (w := w) (base := base) M d.need_way
  have need_row := ok_need_row M d.need_row is_voice
  have need_both := ok_need_both M d.need_both need_way need_row
  have need_promise := ok_need_promise (w := w) (base := base) M d.need_promise
  have need_promises := ok_need_promises (w := w) (base := base) M d.need_promises
  have rows_of := ok_rows_of (w := w) (base := base) M d.rows_of
  have short_rows := ok_short_rows M d.short_rows rows_of
  have need_table := ok_need_table M d.need_table is_voice short_rows
  have told_by := ok_told_by M d.told_by short_rows
  have goes := ok_goes M d.goes rows_of
  have is_parts := ok_is_parts M d.is_parts is_voice goes told_by
  have taken := ok_l_taken (w := w) (base := base) M d.l_taken
  have pick := ok_l_pick M d.l_pick taken
  have ways := ok_l_ways (w := w) (base := base) M d.l_ways
  have turned := ok_l_turned (w := w) (base := base) M d.l_turned
  have answerT := ok_l_answer (w := w) (base := base) M d.l_answer
  have rowsT := ok_l_rows (w := w) (base := base) M d.l_rows
  have shortT := ok_l_short M d.l_short rowsT
  have word := ok_l_word (w := w) (base := base) M d.l_word
  obtain ⟨C, fI, fdI, mk, FI, gD⟩ := d.desk
  exact {
    answer := ok_answer M d.answer need_both
    matters := ok_matters M d.matters need_both
    table_of := ok_table_of M d.table_of need_way
    holds := ok_holds M d.holds need_way need_promise
    count_allowed := ok_count_allowed M d.count_allowed need_way need_number
    power := ok_power M d.power need_way need_number
    desk := ⟨C, fI, fdI, mk, ok_Desk_init M FI need_way, FI.binds fun _ _ _ _ _ _ us hl => (match us, hl with | [_, _], _ => rfl), gD⟩
    write_row := ok_write_row M d.write_row need_row
    parts_answer := ok_parts_answer M d.parts_answer is_parts need_row
    keeps := ok_keeps M d.keeps need_table need_promise
    can_hold := ok_can_hold M d.can_hold need_promises
    keepers := ok_keepers M d.keepers need_promises
    clashes := ok_clashes M d.clashes need_promises
    can_add := ok_can_add M d.can_add need_promises
    count_tables := ok_count_tables M d.count_tables need_promises
    write_table := ok_write_table M d.write_table need_table
    taken := taken
    pick := pick
    ways := ways
    row := ok_l_row M d.l_row taken pick
    table := ok_l_table M d.l_table taken pick ways shortT answerT turned
    voices := ok_l_voices M d.l_voices word
    as_table := ok_l_as_table M d.l_as_table word shortT }
end
/-! ### from what is read off the top -/
section
variable {K : PySem.W.Frag} {h : Heap} {mg : Str → Option Value}
theorem defAt_mk (X : K.In h) (G : h.Ns mainGlobals mg) {x : Str} {st : Stmt} {ps : List Str} {f : Addr} {oc : Value} {od an : Option Addr} {osl : Array (Option Value)} {kV doc pm cdv ct : Value}
    (a : PySem.W.nsIn K mainGlobals x = some (some (.ref f))) (l : K.lookup f = some ⟨oc, od, .func (PySem.W.fnOf x x (defArgs st) (defBody st) (defScope st) .none kV doc pm an cdv ct), osl⟩) (c : PySem.W.codeIn K cdv x = true) (k : PySem.W.keepIn K (.ref f) = true)
    (b : ∀ (kV doc pm : Value) (an : Option Addr) (cdv ct : Value) (us : List Value), us.length = ps.length → bindArgs (PySem.W.fnOf x x (defArgs st) (defBody st) (defScope st) .none kV doc pm an cdv ct) ⟨us, []⟩ = pure (ps.zip us)) : DefAt K mg x st ps :=
  have F := fun_mk (st := st) l c k
  ⟨⟨f, _, F, PySem.W.mg_of X G a, F.binds b⟩⟩
theorem own0_mk (X : K.In h) (G : h.Ns mainGlobals mg) {x : Str} {C : Addr} (a : PySem.W.nsIn K mainGlobals x = some (some (.ref C))) (q : PySem.W.excIn K C veB "ValueError.__new__" = true) (k : PySem.W.keepIn K (.ref C) = true)
    (e : PySem.W.subIn K (.ref C) (.type "BaseException") = some true) (t : PySem.W.typeIn K (.ref C) = some (.type "type")) : Own0 K mg x C := ⟨q, PySem.W.mg_of X G a, k, e, t⟩
theorem kt_mk (X : K.In h) (G : h.Ns mainGlobals mg) {x : Str} {a : Addr} {xs : List V} {od : Option Addr} {its : Array Value} {n : Nat} {sl : Array (Option Value)} (e : PySem.W.nsIn K mainGlobals x = some (some (.ref a)))
    (l : K.lookup a = some ⟨.type "tuple", od, .seq its n, sl⟩) (z : its.size ≤ sizeLine) (v : Vals xs its.toList) : ∃ a, KT K mg x a xs := ⟨a, PySem.W.mg_of X G e, fun _ => .inr ⟨_, its, n, l, rfl, rfl, z, v⟩⟩
theorem ix_mk {P : Program} (X : K.In h) (G : h.Ns mainGlobals mg) {nm : Str} {C fI : Addr} {nm' q' : Str} {N : Addr} {bs bm : List Value} {sn : List Str} {sub : List Value} {ab : Bool} {col : Option Bool} {dd : Option Addr} {k0 k1 k2 k3 k5 : Option Value}
    {q : Str} {oc : Value} {od : Option Addr} {doc pm : Value} {an : Option Addr} {cda cc : Addr} {ct : Value} {osl : Array (Option Value)} {p1 p2 a1 a2 a3 a4 a5 a6 b1 b2 b3 b4 : Pos} {ccl : Value} {cdd : Option Addr} {vs : Array Value} {ccs : Array (Option Value)} {file : Str} {tf : Tok} {cl : Value} {cld : Option Addr} {csl : Array (Option Value)}
    (h1 : PySem.W.nsIn K mainGlobals nm = some (some (.ref C))) (h2 : K.lookup C = some (excClassObj nm' q' C N bs bm true sn sub ab col dd k0 k1 k2 k3 k5 "ValueError.__new__")) (h3 : PySem.HandSPX.refsVE bm = true)
    (h4 : PySem.W.findIn K (.ref C) "__setattr__" = some (some (.builtin "object.__setattr__"))) (h5 : PySem.W.findIn K (.ref C) "index" = some none) (h6 : PySem.W.findIn K (.ref C) "__init__" = some (some (.ref fI))) (h7 : PySem.W.typeIn K (.ref fI) = some (.type "function"))
    (h8 : PySem.W.keepIn K (.ref C) = true) (h9 : PySem.W.subIn K (.ref C) (.type "BaseException") = some true) (h10 : PySem.W.subIn K (.ref C) (.type "ValueError") = some true) (h11 : PySem.W.typeIn K (.ref C) = some (.type "type")) (h12 : PySem.W.mroIn K C (.ref C) = some true)
    (h13 : PySem.W.ks_superIn K C C "__init__" = some (some (.builtin "ValueError.__init__"))) (h14 : PySem.W.nsIn K cStatics "thirdparty.any" = some none) (h15 : PySem.W.nsIn K mainGlobals "super" = some none) (h16 : (P.main.scope.names.lookup ("super" : Str)).isSome = false)
    (h17 : K.lookup fI = some ⟨oc, od, .func (PySem.W.ksFn "__init__" q (RvX.argsI p1 p2) (RvX.bodyI a1 a2 a3 a4 a5 a6 b1 b2 b3 b4) RvX.scopeI .none .none doc pm an (.ref cda) ct cc), osl⟩) (h18 : PySem.W.codeIn K (.ref cda) q = true) (h19 : (a3.endLine == a5.line) = true)
    (h20 : K.lookup cda = some ⟨ccl, cdd, .fields vs, ccs⟩) (h21 : vs[2]? = some (.str file tf)) (h22 : ((P.main.file : Str) == file) = true) (h23 : K.lookup cc = some ⟨cl, cld, .cell (some (.ref C)), csl⟩) : ∃ f, RvX.IxTxt P K mg nm C f :=
  ⟨fI, PySem.W.mg_of X G h1, ⟨_, _, _, _, _, _, _, _, _, _, _, _, _, _, _, h2, h3⟩, h4, h5, h6, h7, h8, h9, h10, h11, h12, h13, h14, PySem.W.mg_none_of X G h15, h16,
    ⟨_, _, _, _, _, _, _, _, _, _, _, _, _, _, _, _, _, _, _, _, _, _, h17, h18, h19, ⟨_, _, _, _, _, _, h20, h21, h22⟩, _, _, _, h23⟩⟩
end
end Rv

/-! ## RvFin -/
/-! The end's lemmas. Printed by gen_end.py. -/
namespace Rv
open PySem PySem.Spec PyProof.Rows L2 LamX RvL
section
variable {P : Program} {w : World} {K : PySem.W.Frag} {h : Heap} {mg : Str → Option Value}
theorem cls_mk (X : K.In h) (G : h.Ns mainGlobals mg) {cW cN cP cS cR cT cV : Addr}
    (z_isinst : PySem.W.nsIn K mainGlobals "isinstance" = some none)
    (z_tstr : PySem.W.nsIn K mainGlobals "str" = some none)
    (z_tint : PySem.W.nsIn K mainGlobals "int" = some none)
    (z_tbool : PySem.W.nsIn K mainGlobals "bool" = some none)
    (z_ttuple : PySem.W.nsIn K mainGlobals "tuple" = some none)
    (z_tlist : PySem.W.nsIn K mainGlobals "list" = some none)
    (z_tdict : PySem.W.nsIn K mainGlobals "dict" = some none)
    (z_len : PySem.W.nsIn K mainGlobals "len" = some none)
    (z_range : PySem.W.nsIn K mainGlobals "range" = some none)
    (z_all : PySem.W.nsIn K mainGlobals "all" = some none)
    (z_zip : PySem.W.nsIn K mainGlobals "zip" = some none)
    (kV : ∃ a, KT K mg "VOICES" a VOI) (kW : ∃ a, KT K mg "WAYS" a WAY) (kP : ∃ a, KT K mg "PROMISES" a PRO)
    (mR : ∃ t, mg "MOST_ROW" = some (.int 12 t)) (mL : ∃ t, mg "MOST_LENGTH" = some (.int 60 t)) (mS : ∃ t, mg "MOST_SHORT" = some (.int 3 t)) (mM : ∃ t, mg "MOST_SMALL" = some (.int 6 t))
    (oW : Own0 K mg "BadWay" cW)
    (oN : Own0 K mg "BadNumber" cN)
    (oP : Own0 K mg "BadPromise" cP)
    (oS : Own0 K mg "BadPromises" cS)
    (oR : ∃ f, RvX.IxTxt P K mg "BadRow" cR f)
    (oT : ∃ f, RvX.IxTxt P K mg "BadTable" cT f)
    (aV : PySem.W.nsIn K mainGlobals "VoiceError" = some (some (.ref cV))) (xV : ExK K cV)
    (xW : ExK K cW) (nW : PySem.W.findIn K (.ref cW) "index" = some none) (uW : PySem.W.subIn K (.ref cW) (.ref cV) = some true)
    (xN : ExK K cN) (nN : PySem.W.findIn K (.ref cN) "index" = some none) (uN : PySem.W.subIn K (.ref cN) (.ref cV) = some true)
    (xP : ExK K cP) (nP : PySem.W.findIn K (.ref cP) "index" = some none) (uP : PySem.W.subIn K (.ref cP) (.ref cV) = some true)
    (xS : ExK K cS) (nS : PySem.W.findIn K (.ref cS) "index" = some none) (uS : PySem.W.subIn K (.ref cS) (.ref cV) = some true)
    (xR : ExK K cR) (nR : PySem.W.findIn K (.ref cR) "index" = some none) (uR : PySem.W.subIn K (.ref cR) (.ref cV) = some true)
    (xT : ExK K cT) (nT : PySem.W.findIn K (.ref cT) "index" = some none) (uT : PySem.W.subIn K (.ref cT) (.ref cV) = some true)
    (sWW : PySem.W.subIn K (.ref cW) (.ref cW) = some true)
    (sWN : PySem.W.subIn K (.ref cW) (.ref cN) = some false)
    (sWP : PySem.W.subIn K (.ref cW) (.ref cP) = some false)
    (sWS : PySem.W.subIn K (.ref cW) (.ref cS) = some false)
    (sWR : PySem.W.subIn K (.ref cW) (.ref cR) = some false)
    (sWT : PySem.W.subIn K (.ref cW) (.ref cT) = some false)
    (sNW : PySem.W.subIn K (.ref cN) (.ref cW) = some false)
    (sNN : PySem.W.subIn K (.ref cN) (.ref cN) = some true)
    (sNP : PySem.W.subIn K (.ref cN) (.ref cP) = some false)
    (sNS : PySem.W.subIn K (.ref cN) (.ref cS) = some false)
    (sNR : PySem.W.subIn K (.ref cN) (.ref cR) = some false)
    (sNT : PySem.W.subIn K (.ref cN) (.ref cT) = some false)
    (sPW : PySem.W.subIn K (.ref cP) (.ref cW) = some false)
    (sPN : PySem.W.subIn K (.ref cP) (.ref cN) = some false)
    (sPP : PySem.W.subIn K (.ref cP) (.ref cP) = some true)
    (sPS : PySem.W.subIn K (.ref cP) (.ref cS) = some false)
    (sPR : PySem.W.subIn K (.ref cP) (.ref cR) = some false)
    (sPT : PySem.W.subIn K (.ref cP) (.ref cT) = some false)
    (sSW : PySem.W.subIn K (.ref cS) (.ref cW) = some false)
    (sSN : PySem.W.subIn K (.ref cS) (.ref cN) = some false)
    (sSP : PySem.W.subIn K (.ref cS) (.ref cP) = some false)
    (sSS : PySem.W.subIn K (.ref cS) (.ref cS) = some true)
    (sSR : PySem.W.subIn K (.ref cS) (.ref cR) = some false)
    (sST : PySem.W.subIn K (.ref cS) (.ref cT) = some false)
    (sRW : PySem.W.subIn K (.ref cR) (.ref cW) = some false)
    (sRN : PySem.W.subIn K (.ref cR) (.ref cN) = some false)
    (sRP : PySem.W.subIn K (.ref cR) (.ref cP) = some false)
    (sRS : PySem.W.subIn K (.ref cR) (.ref cS) = some false)
    (sRR : PySem.W.subIn K (.ref cR) (.ref cR) = some true)
    (sRT : PySem.W.subIn K (.ref cR) (.ref cT) = some false)
    (sTW : PySem.W.subIn K (.ref cT) (.ref cW) = some false)
    (sTN : PySem.W.subIn K (.ref cT) (.ref cN) = some false)
    (sTP : PySem.W.subIn K (.ref cT) (.ref cP) = some false)
    (sTS : PySem.W.subIn K (.ref cT) (.ref cS) = some false)
    (sTR : PySem.W.subIn K (.ref cT) (.ref cR) = some false)
    (sTT : PySem.W.subIn K (.ref cT) (.ref cT) = some true)
    : ∃ c CV, Md P K mg c ∧ Wk K mg c CV := by
  refine ⟨⟨cW, cR, cP, cS, cN, cT⟩, cV, ⟨PySem.W.mg_none_of X G z_isinst, PySem.W.mg_none_of X G z_tstr, PySem.W.mg_none_of X G z_tint, PySem.W.mg_none_of X G z_tbool, PySem.W.mg_none_of X G z_ttuple, PySem.W.mg_none_of X G z_tlist, PySem.W.mg_none_of X G z_tdict, PySem.W.mg_none_of X G z_len, PySem.W.mg_none_of X G z_range, PySem.W.mg_none_of X G z_all, PySem.W.mg_none_of X G z_zip, kV, kW, kP, mR, mL, mS, mM, oW, oP, oS, oN, oR, oT⟩, ⟨PySem.W.mg_of X G aV, xV, fun e => ?_, fun e => ?_, fun e => ?_, fun e e' => ?_⟩⟩
  · cases e
    · exact xW
    · exact xN
    · exact xP
    · exact xS
    · exact xR
    · exact xT
  · cases e
    · exact nW
    · exact nN
    · exact nP
    · exact nS
    · exact nR
    · exact nT
  · cases e
    · exact uW
    · exact uN
    · exact uP
    · exact uS
    · exact uR
    · exact uT
  · cases e <;> cases e'
    · exact sWW
    · exact sWN
    · exact sWP
    · exact sWS
    · exact sWR
    · exact sWT
    · exact sNW
    · exact sNN
    · exact sNP
    · exact sNS
    · exact sNR
    · exact sNT
    · exact sPW
    · exact sPN
    · exact sPP
    · exact sPS
    · exact sPR
    · exact sPT
    · exact sSW
    · exact sSN
    · exact sSP
    · exact sSS
    · exact sSR
    · exact sST
    · exact sRW
    · exact sRN
    · exact sRP
    · exact sRS
    · exact sRR
    · exact sRT
    · exact sTW
    · exact sTN
    · exact sTP
    · exact sTS
    · exact sTR
    · exact sTT
theorem desk_mk (X : K.In h) (G : h.Ns mainGlobals mg) {C fI : Addr} {oc : Value} {od an : Option Addr} {osl : Array (Option Value)} {kV doc pm cdv ct : Value} (a : PySem.W.nsIn K mainGlobals "Desk" = some (some (.ref C))) (m : PySem.W.makesIn K C = true)
    (i : PySem.W.findIn K (.ref C) "__init__" = some (some (.ref fI))) (n : PySem.W.isFn K (.ref fI) = true) (k : PySem.W.keepIn K (.ref C) = true)
    (l : K.lookup fI = some ⟨oc, od, .func (PySem.W.fnOf "__init__" "Desk.__init__" (defArgs s_Desk_init) (defBody s_Desk_init) (defScope s_Desk_init) .none kV doc pm an cdv ct), osl⟩) (c : PySem.W.codeIn K cdv "Desk.__init__" = true) (k2 : PySem.W.keepIn K (.ref fI) = true) :
    ∃ (C fI : Addr) (fdI : FuncData), Mk K C fI ∧ Fun K "__init__" "Desk.__init__" s_Desk_init fI fdI ∧ mg "Desk" = some (.ref C) :=
  ⟨C, fI, _, ⟨m, i, n, k⟩, fun_mk (st := s_Desk_init) l c k2, PySem.W.mg_of X G a⟩
theorem law_mk {l : PySem.W.OpenLaw} (X : K.In h) (G : h.Ns mainGlobals mg) {fa fL cL Pt : Addr} {oc : Value} {od an : Option Addr} {osl : Array (Option Value)} {kV doc pm ct : Value} {dd : Option Addr} {vs : Array Value} {sl : Array (Option Value)} {file : Str} {tf tg tt : Tok} {flags text : Int} {inF : Bool}
    (hmg : mg "law" = some (.ref fa)) (hc : ∃ c CV, Md l.prog K mg c ∧ Wk K mg c CV) (ds : Ds K mg)
    (a : PySem.W.nsIn K mainGlobals "law" = some (some (.ref fL))) (lk : K.lookup fL = some ⟨oc, od, .func (PySem.W.fnOf "law" "law" (defArgs s_law) (defBody s_law) (defScope s_law) .none kV doc pm an (.ref cL) ct), osl⟩) (c : PySem.W.codeIn K (.ref cL) "law" = true)
    (lc : K.lookup cL = some ⟨.type "code", dd, .fields vs, sl⟩) (v11 : vs[11]? = some (.ref Pt)) (g11 : vs.getD 11 .none = .ref Pt) (v18 : vs.getD 18 .none = .str file tf) (v7 : vs.getD 7 .none = .int flags tg) (v9 : vs.getD 9 .none = .bool inF) (v10 : vs.getD 10 .none = .int text tt) (ne : cL ≠ Pt)
    (nP : K.lookup Pt = none) (tb : h.get? Pt = some { cls := .none, data := .fields #[] }) : LawAtS l w K CX0 9 63 "_law_script" mg fa h := by
  have e := hmg.symm.trans (PySem.W.mg_of X G a)
  cases e
  obtain ⟨cs, CV, M, wk⟩ := hc
  refine ⟨PySem.W.fnOf "law" "law" (defArgs s_law) (defBody s_law) (defScope s_law) .none kV doc pm an (.ref cL) ct, [(cL, Pt)], spLaw K Pt, fun p hp => ?_, fun p hp => ?_, fun p hp => ?_, fun s u => .of_eq rfl, fun H a ns hl _ hT hS => ?_, fun base KB GB TB => ?_⟩
  · cases List.mem_singleton.mp hp
    exact tb
  · cases List.mem_singleton.mp hp
    exact nP
  · cases List.mem_singleton.mp hp
    exact ⟨_, vs, file, tf, flags, tg, inF, text, tt, X _ _ lc, rfl, rfl, v11, g11, v18, v7, v9, v10, ne⟩
  · refine ⟨a, ns, rfl, hS, hl, fun p hp => ?_, fun _ => rfl⟩
    cases List.mem_singleton.mp hp
    exact TabS.nil (hT _ (List.mem_singleton.mpr rfl))
  · exact ok_law lk c { M := M, G := pg_mk M ds, D := ds.l_wrong, k := wk, TB := TB _ (List.mem_singleton.mpr rfl) }
end
end Rv

open PySem PySem.W PyProof.Rows in
set_option maxRecDepth 100000 in
set_option maxHeartbeats 0 in
theorem PySem.Challenge.cw_rulevoices_k10_whole_refused_holds : PySem.Challenge.rw_rulevoices_k10_whole_refused.Holds := by
  w_on; o_law; k_head; (case hw => w_witness2)
  k_fill
  refine LamX.walk_ofTs (l := PySem.Challenge.rw_rulevoices_k10_whole_refused) (n := 63) (k := 9) (x := "_law_script") (CX := fun _ => L2.CX0) rfl (by decide) rfl ⟨rfl, by decide, by decide⟩ (fun w h Y => PySem.W.km_in_of Y) ?RF (fun _ _ _ _ _ z => z)
  case RF =>
    intro w mg fa h Y KX G hmg
    refine' Rv.law_mk KX G hmg ?Rhc ?Rds ?a_1 ?lk_1 ?c_1 ?lc_1 ?v11_1 ?g11_1 ?v18_1 ?v7_1 ?v9_1 ?v10_1 ?ne_1 ?nP_1 ?tb_1
    (case Rds =>
      refine' ⟨?d_is_voice_2, ?d_is_in_2, ?d_need_number_2, ?d_need_way_2, ?d_need_row_2, ?d_need_both_2, ?d_answer_2, ?d_matters_2, ?d_table_of_2, ?d_count_allowed_2, ?d_power_2, ?d_need_promise_2, ?d_need_promises_2, ?d_holds_2, ?d_rows_of_2, ?d_short_rows_2, ?d_need_table_2, ?d_keeps_2, ?d_write_row_2, ?d_write_table_2, ?d_can_hold_2, ?d_keepers_2, ?d_clashes_2, ?d_can_add_2, ?d_count_tables_2, ?d_told_by_2, ?d_goes_2, ?d_is_parts_2, ?d_parts_answer_2, ?d_l_taken_2, ?d_l_pick_2, ?d_l_ways_2, ?d_l_turned_2, ?d_l_answer_2, ?d_l_rows_2, ?d_l_short_2, ?d_l_row_2, ?d_l_word_2, ?d_l_voices_2, ?d_l_table_2, ?d_l_as_table_2, ?d_l_wrong_2, ?d_desk_2⟩
      (case d_is_voice_2 =>
        refine' Rv.defAt_mk KX G ?a_3 ?l_3 ?c_3 ?k_3 (fun _ _ _ _ _ _ us hl => match us, hl with | [_], _ => rfl)
        (case a_3 => k_is)
        (case l_3 => k_is)
        (case c_3 => k_is)
        (case k_3 => k_is))
      (case d_is_in_2 =>
        refine' Rv.defAt_mk KX G ?a_4 ?l_4 ?c_4 ?k_4 (fun _ _ _ _ _ _ us hl => match us, hl with | [_, _, _], _ => rfl)
        (case a_4 => k_is)
        (case l_4 => k_is)
        (case c_4 => k_is)
        (case k_4 => k_is))
      (case d_need_number_2 =>
        refine' Rv.defAt_mk KX G ?a_5 ?l_5 ?c_5 ?k_5 (fun _ _ _ _ _ _ us hl => match us, hl with | [_, _, _], _ => rfl)
        (case a_5 => k_is)
        (case l_5 => k_is)
        (case c_5 => k_is)
        (case k_5 => k_is))
      (case d_need_way_2 =>
        refine' Rv.defAt_mk KX G ?a_6 ?l_6 ?c_6 ?k_6 (fun _ _ _ _ _ _ us hl => match us, hl with | [_], _ => rfl)
        (case a_6 => k_is)
        (case l_6 => k_is)
        (case c_6 => k_is)
        (case k_6 => k_is))
      (case d_need_row_2 =>
        refine' Rv.defAt_mk KX G ?a_7 ?l_7 ?c_7 ?k_7 (fun _ _ _ _ _ _ us hl => match us, hl with | [_], _ => rfl)
        (case a_7 => k_is)
        (case l_7 => k_is)
        (case c_7 => k_is)
        (case k_7 => k_is))
      (case d_need_both_2 =>
        refine' Rv.defAt_mk KX G ?a_8 ?l_8 ?c_8 ?k_8 (fun _ _ _ _ _ _ us hl => match us, hl with | [_, _], _ => rfl)
        (case a_8 => k_is)
        (case l_8 => k_is)
        (case c_8 => k_is)
        (case k_8 => k_is))
      (case d_answer_2 =>
        refine' Rv.defAt_mk KX G ?a_9 ?l_9 ?c_9 ?k_9 (fun _ _ _ _ _ _ us hl => match us, hl with | [_, _], _ => rfl)
        (case a_9 => k_is)
        (case l_9 => k_is)
        (case c_9 => k_is)
        (case k_9 => k_is))
      (case d_matters_2 =>
        refine' Rv.defAt_mk KX G ?a_10 ?l_10 ?c_10 ?k_10 (fun _ _ _ _ _ _ us hl => match us, hl with | [_, _], _ => rfl)
        (case a_10 => k_is)
        (case l_10 => k_is)
        (case c_10 => k_is)
        (case k_10 => k_is))
      (case d_table_of_2 =>
        refine' Rv.defAt_mk KX G ?a_11 ?l_11 ?c_11 ?k_11 (fun _ _ _ _ _ _ us hl => match us, hl with | [_], _ => rfl)
        (case a_11 => k_is)
        (case l_11 => k_is)
        (case c_11 => k_is)
        (case k_11 => k_is))
      (case d_count_allowed_2 =>
        refine' Rv.defAt_mk KX G ?a_12 ?l_12 ?c_12 ?k_12 (fun _ _ _ _ _ _ us hl => match us, hl with | [_, _], _ => rfl)
        (case a_12 => k_is)
        (case l_12 => k_is)
        (case c_12 => k_is)
        (case k_12 => k_is))
      (case d_power_2 =>
        refine' Rv.defAt_mk KX G ?a_13 ?l_13 ?c_13 ?k_13 (fun _ _ _ _ _ _ us hl => match us, hl with | [_, _], _ => rfl)
        (case a_13 => k_is)
        (case l_13 => k_is)
        (case c_13 => k_is)
        (case k_13 => k_is))
      (case d_need_promise_2 =>
        refine' Rv.defAt_mk KX G ?a_14 ?l_14 ?c_14 ?k_14 (fun _ _ _ _ _ _ us hl => match us, hl with | [_], _ => rfl)
        (case a_14 => k_is)
        (case l_14 => k_is)
        (case c_14 => k_is)
        (case k_14 => k_is))
      (case d_need_promises_2 =>
        refine' Rv.defAt_mk KX G ?a_15 ?l_15 ?c_15 ?k_15 (fun _ _ _ _ _ _ us hl => match us, hl with | [_], _ => rfl)
        (case a_15 => k_is)
        (case l_15 => k_is)
        (case c_15 => k_is)
        (case k_15 => k_is))
      (case d_holds_2 =>
        refine' Rv.defAt_mk KX G ?a_16 ?l_16 ?c_16 ?k_16 (fun _ _ _ _ _ _ us hl => match us, hl with | [_, _], _ => rfl)
        (case a_16 => k_is)
        (case l_16 => k_is)
        (case c_16 => k_is)
        (case k_16 => k_is))
      (case d_rows_of_2 =>
        refine' Rv.defAt_mk KX G ?a_17 ?l_17 ?c_17 ?k_17 (fun _ _ _ _ _ _ us hl => match us, hl with | [_], _ => rfl)
        (case a_17 => k_is)
        (case l_17 => k_is)
        (case c_17 => k_is)
        (case k_17 => k_is))
      (case d_short_rows_2 =>
        refine' Rv.defAt_mk KX G ?a_18 ?l_18 ?c_18 ?k_18 (fun _ _ _ _ _ _ us hl => match us, hl with | [_], _ => rfl)
        (case a_18 => k_is)
        (case l_18 => k_is)
        (case c_18 => k_is)
        (case k_18 => k_is))
      (case d_need_table_2 =>
        refine' Rv.defAt_mk KX G ?a_19 ?l_19 ?c_19 ?k_19 (fun _ _ _ _ _ _ us hl => match us, hl with | [_], _ => rfl)
        (case a_19 => k_is)
        (case l_19 => k_is)
        (case c_19 => k_is)
        (case k_19 => k_is))
      (case d_keeps_2 =>
        refine' Rv.defAt_mk KX G ?a_20 ?l_20 ?c_20 ?k_20 (fun _ _ _ _ _ _ us hl => match us, hl with | [_, _], _ => rfl)
        (case a_20 => k_is)
        (case l_20 => k_is)
        (case c_20 => k_is)
        (case k_20 => k_is))
      (case d_write_row_2 =>
        refine' Rv.defAt_mk KX G ?a_21 ?l_21 ?c_21 ?k_21 (fun _ _ _ _ _ _ us hl => match us, hl with | [_], _ => rfl)
        (case a_21 => k_is)
        (case l_21 => k_is)
        (case c_21 => k_is)
        (case k_21 => k_is))
      (case d_write_table_2 =>
        refine' Rv.defAt_mk KX G ?a_22 ?l_22 ?c_22 ?k_22 (fun _ _ _ _ _ _ us hl => match us, hl with | [_], _ => rfl)
        (case a_22 => k_is)
        (case l_22 => k_is)
        (case c_22 => k_is)
        (case k_22 => k_is))
      (case d_can_hold_2 =>
        refine' Rv.defAt_mk KX G ?a_23 ?l_23 ?c_23 ?k_23 (fun _ _ _ _ _ _ us hl => match us, hl with | [_], _ => rfl)
        (case a_23 => k_is)
        (case l_23 => k_is)
        (case c_23 => k_is)
        (case k_23 => k_is))
      (case d_keepers_2 =>
        refine' Rv.defAt_mk KX G ?a_24 ?l_24 ?c_24 ?k_24 (fun _ _ _ _ _ _ us hl => match us, hl with | [_], _ => rfl)
        (case a_24 => k_is)
        (case l_24 => k_is)
        (case c_24 => k_is)
        (case k_24 => k_is))
      (case d_clashes_2 =>
        refine' Rv.defAt_mk KX G ?a_25 ?l_25 ?c_25 ?k_25 (fun _ _ _ _ _ _ us hl => match us, hl with | [_], _ => rfl)
        (case a_25 => k_is)
        (case l_25 => k_is)
        (case c_25 => k_is)
        (case k_25 => k_is))
      (case d_can_add_2 =>
        refine' Rv.defAt_mk KX G ?a_26 ?l_26 ?c_26 ?k_26 (fun _ _ _ _ _ _ us hl => match us, hl with | [_], _ => rfl)
        (case a_26 => k_is)
        (case l_26 => k_is)
        (case c_26 => k_is)
        (case k_26 => k_is))
      (case d_count_tables_2 =>
        refine' Rv.defAt_mk KX G ?a_27 ?l_27 ?c_27 ?k_27 (fun _ _ _ _ _ _ us hl => match us, hl with | [_], _ => rfl)
        (case a_27 => k_is)
        (case l_27 => k_is)
        (case c_27 => k_is)
        (case k_27 => k_is))
      (case d_told_by_2 =>
        refine' Rv.defAt_mk KX G ?a_28 ?l_28 ?c_28 ?k_28 (fun _ _ _ _ _ _ us hl => match us, hl with | [_], _ => rfl)
        (case a_28 => k_is)
        (case l_28 => k_is)
        (case c_28 => k_is)
        (case k_28 => k_is))
      (case d_goes_2 =>
        refine' Rv.defAt_mk KX G ?a_29 ?l_29 ?c_29 ?k_29 (fun _ _ _ _ _ _ us hl => match us, hl with | [_], _ => rfl)
        (case a_29 => k_is)
        (case l_29 => k_is)
        (case c_29 => k_is)
        (case k_29 => k_is))
      (case d_is_parts_2 =>
        refine' Rv.defAt_mk KX G ?a_30 ?l_30 ?c_30 ?k_30 (fun _ _ _ _ _ _ us hl => match us, hl with | [_], _ => rfl)
        (case a_30 => k_is)
        (case l_30 => k_is)
        (case c_30 => k_is)
        (case k_30 => k_is))
      (case d_parts_answer_2 =>
        refine' Rv.defAt_mk KX G ?a_31 ?l_31 ?c_31 ?k_31 (fun _ _ _ _ _ _ us hl => match us, hl with | [_, _], _ => rfl)
        (case a_31 => k_is)
        (case l_31 => k_is)
        (case c_31 => k_is)
        (case k_31 => k_is))
      (case d_l_taken_2 =>
        refine' Rv.defAt_mk KX G ?a_32 ?l_32 ?c_32 ?k_32 (fun _ _ _ _ _ _ us hl => match us, hl with | [_, _], _ => rfl)
        (case a_32 => k_is)
        (case l_32 => k_is)
        (case c_32 => k_is)
        (case k_32 => k_is))
      (case d_l_pick_2 =>
        refine' Rv.defAt_mk KX G ?a_33 ?l_33 ?c_33 ?k_33 (fun _ _ _ _ _ _ us hl => match us, hl with | [_, _], _ => rfl)
        (case a_33 => k_is)
        (case l_33 => k_is)
        (case c_33 => k_is)
        (case k_33 => k_is))
      (case d_l_ways_2 =>
        refine' Rv.defAt_mk KX G ?a_34 ?l_34 ?c_34 ?k_34 (fun _ _ _ _ _ _ us hl => match us, hl with | [], _ => rfl)
        (case a_34 => k_is)
        (case l_34 => k_is)
        (case c_34 => k_is)
        (case k_34 => k_is))
      (case d_l_turned_2 =>
        refine' Rv.defAt_mk KX G ?a_35 ?l_35 ?c_35 ?k_35 (fun _ _ _ _ _ _ us hl => match us, hl with | [_], _ => rfl)
        (case a_35 => k_is)
        (case l_35 => k_is)
        (case c_35 => k_is)
        (case k_35 => k_is))
      (case d_l_answer_2 =>
        refine' Rv.defAt_mk KX G ?a_36 ?l_36 ?c_36 ?k_36 (fun _ _ _ _ _ _ us hl => match us, hl with | [_, _], _ => rfl)
        (case a_36 => k_is)
        (case l_36 => k_is)
        (case c_36 => k_is)
        (case k_36 => k_is))
      (case d_l_rows_2 =>
        refine' Rv.defAt_mk KX G ?a_37 ?l_37 ?c_37 ?k_37 (fun _ _ _ _ _ _ us hl => match us, hl with | [_], _ => rfl)
        (case a_37 => k_is)
        (case l_37 => k_is)
        (case c_37 => k_is)
        (case k_37 => k_is))
      (case d_l_short_2 =>
        refine' Rv.defAt_mk KX G ?a_38 ?l_38 ?c_38 ?k_38 (fun _ _ _ _ _ _ us hl => match us, hl with | [_], _ => rfl)
        (case a_38 => k_is)
        (case l_38 => k_is)
        (case c_38 => k_is)
        (case k_38 => k_is))
      (case d_l_row_2 =>
        refine' Rv.defAt_mk KX G ?a_39 ?l_39 ?c_39 ?k_39 (fun _ _ _ _ _ _ us hl => match us, hl with | [_, _], _ => rfl)
        (case a_39 => k_is)
        (case l_39 => k_is)
        (case c_39 => k_is)
        (case k_39 => k_is))
      (case d_l_word_2 =>
        refine' Rv.defAt_mk KX G ?a_40 ?l_40 ?c_40 ?k_40 (fun _ _ _ _ _ _ us hl => match us, hl with | [_], _ => rfl)
        (case a_40 => k_is)
        (case l_40 => k_is)
        (case c_40 => k_is)
        (case k_40 => k_is))
      (case d_l_voices_2 =>
        refine' Rv.defAt_mk KX G ?a_41 ?l_41 ?c_41 ?k_41 (fun _ _ _ _ _ _ us hl => match us, hl with | [_], _ => rfl)
        (case a_41 => k_is)
        (case l_41 => k_is)
        (case c_41 => k_is)
        (case k_41 => k_is))
      (case d_l_table_2 =>
        refine' Rv.defAt_mk KX G ?a_42 ?l_42 ?c_42 ?k_42 (fun _ _ _ _ _ _ us hl => match us, hl with | [_], _ => rfl)
        (case a_42 => k_is)
        (case l_42 => k_is)
        (case c_42 => k_is)
        (case k_42 => k_is))
      (case d_l_as_table_2 =>
        refine' Rv.defAt_mk KX G ?a_43 ?l_43 ?c_43 ?k_43 (fun _ _ _ _ _ _ us hl => match us, hl with | [_], _ => rfl)
        (case a_43 => k_is)
        (case l_43 => k_is)
        (case c_43 => k_is)
        (case k_43 => k_is))
      (case d_l_wrong_2 =>
        refine' Rv.defAt_mk KX G ?a_44 ?l_44 ?c_44 ?k_44 (fun _ _ _ _ _ _ us hl => match us, hl with | [_], _ => rfl)
        (case a_44 => k_is)
        (case l_44 => k_is)
        (case c_44 => k_is)
        (case k_44 => k_is))
      (case d_desk_2 =>
        refine' Rv.desk_mk KX G ?a_45 ?m_45 ?i_45 ?n_45 ?k_45 ?l_45 ?c_45 ?k2_45
        (case a_45 => k_is)
        (case m_45 => k_is)
        (case i_45 => k_is)
        (case n_45 => k_is)
        (case k_45 => k_is)
        (case l_45 => k_is)
        (case c_45 => k_is)
        (case k2_45 => k_is)))
    (case Rhc =>
      refine' Rv.cls_mk KX G ?z_isinst_46 ?z_tstr_46 ?z_tint_46 ?z_tbool_46 ?z_ttuple_46 ?z_tlist_46 ?z_tdict_46 ?z_len_46 ?z_range_46 ?z_all_46 ?z_zip_46 ?kV_46 ?kW_46 ?kP_46 ?mR_46 ?mL_46 ?mS_46 ?mM_46 ?oW_46 ?oN_46 ?oP_46 ?oS_46 ?oR_46 ?oT_46 ?aV_46 ?xV_46 ?xW_46 ?nW_46 ?uW_46 ?xN_46 ?nN_46 ?uN_46 ?xP_46 ?nP_46 ?uP_46 ?xS_46 ?nS_46 ?uS_46 ?xR_46 ?nR_46 ?uR_46 ?xT_46 ?nT_46 ?uT_46 ?sWW_46 ?sWN_46 ?sWP_46 ?sWS_46 ?sWR_46 ?sWT_46 ?sNW_46 ?sNN_46 ?sNP_46 ?sNS_46 ?sNR_46 ?sNT_46 ?sPW_46 ?sPN_46 ?sPP_46 ?sPS_46 ?sPR_46 ?sPT_46 ?sSW_46 ?sSN_46 ?sSP_46 ?sSS_46 ?sSR_46 ?sST_46 ?sRW_46 ?sRN_46 ?sRP_46 ?sRS_46 ?sRR_46 ?sRT_46 ?sTW_46 ?sTN_46 ?sTP_46 ?sTS_46 ?sTR_46 ?sTT_46
      (case z_isinst_46 => k_is)
      (case z_tstr_46 => k_is)
      (case z_tint_46 => k_is)
      (case z_tbool_46 => k_is)
      (case z_ttuple_46 => k_is)
      (case z_tlist_46 => k_is)
      (case z_tdict_46 => k_is)
      (case z_len_46 => k_is)
      (case z_range_46 => k_is)
      (case z_all_46 => k_is)
      (case z_zip_46 => k_is)
      (case kV_46 =>
        refine' Rv.kt_mk KX G ?e_47 ?l_47 ?z_47 ?v_47
        (case e_47 => k_is)
        (case l_47 => k_is)
        (case z_47 => decide)
        (case v_47 => exact (.cons ⟨_, rfl⟩ (.cons ⟨_, rfl⟩ .nil))))
      (case kW_46 =>
        refine' Rv.kt_mk KX G ?e_48 ?l_48 ?z_48 ?v_48
        (case e_48 => k_is)
        (case l_48 => k_is)
        (case z_48 => decide)
        (case v_48 => exact (.cons ⟨_, rfl⟩ (.cons ⟨_, rfl⟩ (.cons ⟨_, rfl⟩ (.cons ⟨_, rfl⟩ (.cons ⟨_, rfl⟩ (.cons ⟨_, rfl⟩ (.cons ⟨_, rfl⟩ (.cons ⟨_, rfl⟩ (.cons ⟨_, rfl⟩ (.cons ⟨_, rfl⟩ (.cons ⟨_, rfl⟩ (.cons ⟨_, rfl⟩ (.cons ⟨_, rfl⟩ .nil)))))))))))))))
      (case kP_46 =>
        refine' Rv.kt_mk KX G ?e_49 ?l_49 ?z_49 ?v_49
        (case e_49 => k_is)
        (case l_49 => k_is)
        (case z_49 => decide)
        (case v_49 => exact (.cons ⟨_, rfl⟩ (.cons ⟨_, rfl⟩ (.cons ⟨_, rfl⟩ (.cons ⟨_, rfl⟩ (.cons ⟨_, rfl⟩ (.cons ⟨_, rfl⟩ (.cons ⟨_, rfl⟩ (.cons ⟨_, rfl⟩ (.cons ⟨_, rfl⟩ (.cons ⟨_, rfl⟩ .nil))))))))))))
      (case mR_46 => exact ⟨_, PySem.W.mg_of KX G (by k_is)⟩)
      (case mL_46 => exact ⟨_, PySem.W.mg_of KX G (by k_is)⟩)
      (case mS_46 => exact ⟨_, PySem.W.mg_of KX G (by k_is)⟩)
      (case mM_46 => exact ⟨_, PySem.W.mg_of KX G (by k_is)⟩)
      (case oW_46 =>
        refine' Rv.own0_mk KX G ?a_50 ?q_50 ?k_50 ?e_50 ?t_50
        (case a_50 => k_is)
        (case q_50 => k_exc)
        (case k_50 => k_is)
        (case e_50 => k_is)
        (case t_50 => k_is))
      (case oN_46 =>
        refine' Rv.own0_mk KX G ?a_51 ?q_51 ?k_51 ?e_51 ?t_51
        (case a_51 => k_is)
        (case q_51 => k_exc)
        (case k_51 => k_is)
        (case e_51 => k_is)
        (case t_51 => k_is))
      (case oP_46 =>
        refine' Rv.own0_mk KX G ?a_52 ?q_52 ?k_52 ?e_52 ?t_52
        (case a_52 => k_is)
        (case q_52 => k_exc)
        (case k_52 => k_is)
        (case e_52 => k_is)
        (case t_52 => k_is))
      (case oS_46 =>
        refine' Rv.own0_mk KX G ?a_53 ?q_53 ?k_53 ?e_53 ?t_53
        (case a_53 => k_is)
        (case q_53 => k_exc)
        (case k_53 => k_is)
        (case e_53 => k_is)
        (case t_53 => k_is))
      (case oR_46 =>
        refine' Rv.ix_mk KX G ?h1_54 ?h2_54 ?h3_54 ?h4_54 ?h5_54 ?h6_54 ?h7_54 ?h8_54 ?h9_54 ?h10_54 ?h11_54 ?h12_54 ?h13_54 ?h14_54 ?h15_54 ?h16_54 ?h17_54 ?h18_54 ?h19_54 ?h20_54 ?h21_54 ?h22_54 ?h23_54
        (case h1_54 => k_is)
        (case h2_54 => k_is)
        (case h3_54 => decide +kernel)
        (case h4_54 => k_is)
        (case h5_54 => k_is)
        (case h6_54 => k_is)
        (case h7_54 => k_is)
        (case h8_54 => k_is)
        (case h9_54 => k_is)
        (case h10_54 => k_is)
        (case h11_54 => k_is)
        (case h12_54 => k_is)
        (case h13_54 => ks_is)
        (case h14_54 => k_is)
        (case h15_54 => k_is)
        (case h16_54 => first | rfl | decide +kernel)
        (case h17_54 => k_is)
        (case h18_54 => k_is)
        (case h19_54 => rfl)
        (case h20_54 => k_is)
        (case h21_54 => rfl)
        (case h22_54 => first | rfl | decide +kernel)
        (case h23_54 => k_is))
      (case oT_46 =>
        refine' Rv.ix_mk KX G ?h1_55 ?h2_55 ?h3_55 ?h4_55 ?h5_55 ?h6_55 ?h7_55 ?h8_55 ?h9_55 ?h10_55 ?h11_55 ?h12_55 ?h13_55 ?h14_55 ?h15_55 ?h16_55 ?h17_55 ?h18_55 ?h19_55 ?h20_55 ?h21_55 ?h22_55 ?h23_55
        (case h1_55 => k_is)
        (case h2_55 => k_is)
        (case h3_55 => decide +kernel)
        (case h4_55 => k_is)
        (case h5_55 => k_is)
        (case h6_55 => k_is)
        (case h7_55 => k_is)
        (case h8_55 => k_is)
        (case h9_55 => k_is)
        (case h10_55 => k_is)
        (case h11_55 => k_is)
        (case h12_55 => k_is)
        (case h13_55 => ks_is)
        (case h14_55 => k_is)
        (case h15_55 => k_is)
        (case h16_55 => first | rfl | decide +kernel)
        (case h17_55 => k_is)
        (case h18_55 => k_is)
        (case h19_55 => rfl)
        (case h20_55 => k_is)
        (case h21_55 => rfl)
        (case h22_55 => first | rfl | decide +kernel)
        (case h23_55 => k_is))
      (case aV_46 => k_is)
      (case xV_46 =>
        refine' ⟨?cl_56, ?ga_56, ?gg_56, ?ex_56, ?ha_56, ?hn_56, ?ht_56, ?hm_56, ?ty_56, ?hd_56⟩
        (case cl_56 => k_is)
        (case ga_56 => k_is)
        (case gg_56 => k_is)
        (case ex_56 => k_is)
        (case ha_56 => k_is)
        (case hn_56 => k_is)
        (case ht_56 => k_is)
        (case hm_56 => k_is)
        (case ty_56 => k_is)
        (case hd_56 => k_is))
      (case xW_46 =>
        refine' ⟨?cl_57, ?ga_57, ?gg_57, ?ex_57, ?ha_57, ?hn_57, ?ht_57, ?hm_57, ?ty_57, ?hd_57⟩
        (case cl_57 => k_is)
        (case ga_57 => k_is)
        (case gg_57 => k_is)
        (case ex_57 => k_is)
        (case ha_57 => k_is)
        (case hn_57 => k_is)
        (case ht_57 => k_is)
        (case hm_57 => k_is)
        (case ty_57 => k_is)
        (case hd_57 => k_is))
      (case xN_46 =>
        refine' ⟨?cl_58, ?ga_58, ?gg_58, ?ex_58, ?ha_58, ?hn_58, ?ht_58, ?hm_58, ?ty_58, ?hd_58⟩
        (case cl_58 => k_is)
        (case ga_58 => k_is)
        (case gg_58 => k_is)
        (case ex_58 => k_is)
        (case ha_58 => k_is)
        (case hn_58 => k_is)
        (case ht_58 => k_is)
        (case hm_58 => k_is)
        (case ty_58 => k_is)
        (case hd_58 => k_is))
      (case xP_46 =>
        refine' ⟨?cl_59, ?ga_59, ?gg_59, ?ex_59, ?ha_59, ?hn_59, ?ht_59, ?hm_59, ?ty_59, ?hd_59⟩
        (case cl_59 => k_is)
        (case ga_59 => k_is)
        (case gg_59 => k_is)
        (case ex_59 => k_is)
        (case ha_59 => k_is)
        (case hn_59 => k_is)
        (case ht_59 => k_is)
        (case hm_59 => k_is)
        (case ty_59 => k_is)
        (case hd_59 => k_is))
      (case xS_46 =>
        refine' ⟨?cl_60, ?ga_60, ?gg_60, ?ex_60, ?ha_60, ?hn_60, ?ht_60, ?hm_60, ?ty_60, ?hd_60⟩
        (case cl_60 => k_is)
        (case ga_60 => k_is)
        (case gg_60 => k_is)
        (case ex_60 => k_is)
        (case ha_60 => k_is)
        (case hn_60 => k_is)
        (case ht_60 => k_is)
        (case hm_60 => k_is)
        (case ty_60 => k_is)
        (case hd_60 => k_is))
      (case xR_46 =>
        refine' ⟨?cl_61, ?ga_61, ?gg_61, ?ex_61, ?ha_61, ?hn_61, ?ht_61, ?hm_61, ?ty_61, ?hd_61⟩
        (case cl_61 => k_is)
        (case ga_61 => k_is)
        (case gg_61 => k_is)
        (case ex_61 => k_is)
        (case ha_61 => k_is)
        (case hn_61 => k_is)
        (case ht_61 => k_is)
        (case hm_61 => k_is)
        (case ty_61 => k_is)
        (case hd_61 => k_is))
      (case xT_46 =>
        refine' ⟨?cl_62, ?ga_62, ?gg_62, ?ex_62, ?ha_62, ?hn_62, ?ht_62, ?hm_62, ?ty_62, ?hd_62⟩
        (case cl_62 => k_is)
        (case ga_62 => k_is)
        (case gg_62 => k_is)
        (case ex_62 => k_is)
        (case ha_62 => k_is)
        (case hn_62 => k_is)
        (case ht_62 => k_is)
        (case hm_62 => k_is)
        (case ty_62 => k_is)
        (case hd_62 => k_is))
      (case nW_46 => k_is)
      (case uW_46 => k_is)
      (case nN_46 => k_is)
      (case uN_46 => k_is)
      (case nP_46 => k_is)
      (case uP_46 => k_is)
      (case nS_46 => k_is)
      (case uS_46 => k_is)
      (case nR_46 => k_is)
      (case uR_46 => k_is)
      (case nT_46 => k_is)
      (case uT_46 => k_is)
      (case sWW_46 => k_is)
      (case sWN_46 => k_is)
      (case sWP_46 => k_is)
      (case sWS_46 => k_is)
      (case sWR_46 => k_is)
      (case sWT_46 => k_is)
      (case sNW_46 => k_is)
      (case sNN_46 => k_is)
      (case sNP_46 => k_is)
      (case sNS_46 => k_is)
      (case sNR_46 => k_is)
      (case sNT_46 => k_is)
      (case sPW_46 => k_is)
      (case sPN_46 => k_is)
      (case sPP_46 => k_is)
      (case sPS_46 => k_is)
      (case sPR_46 => k_is)
      (case sPT_46 => k_is)
      (case sSW_46 => k_is)
      (case sSN_46 => k_is)
      (case sSP_46 => k_is)
      (case sSS_46 => k_is)
      (case sSR_46 => k_is)
      (case sST_46 => k_is)
      (case sRW_46 => k_is)
      (case sRN_46 => k_is)
      (case sRP_46 => k_is)
      (case sRS_46 => k_is)
      (case sRR_46 => k_is)
      (case sRT_46 => k_is)
      (case sTW_46 => k_is)
      (case sTN_46 => k_is)
      (case sTP_46 => k_is)
      (case sTS_46 => k_is)
      (case sTR_46 => k_is)
      (case sTT_46 => k_is))
    (case a_1 => k_is)
    (case lk_1 => k_is)
    (case c_1 => k_is)
    (case lc_1 => k_is)
    (case v11_1 => rfl)
    (case g11_1 => rfl)
    (case v18_1 => rfl)
    (case v7_1 => rfl)
    (case v9_1 => rfl)
    (case v10_1 => rfl)
    (case ne_1 => decide)
    (case nP_1 => kernel_rfl)
    (case tb_1 => exact PySem.W.km_tabs_of Y _ (by first | decide | simp))
#print axioms PySem.Challenge.cw_rulevoices_k10_whole_refused_holds

