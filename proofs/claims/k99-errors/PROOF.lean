import PyProof.Rows.All
import Wide.All
import OpenK.AllK
import Wide.FinOn
import PyProof.EqAt
import PyProof.EqKinds
import PyProof.TupleCall
import KE.KExcSuper
import HandS.Base
import HandS.Call
import HandS.Exc
import HandS.ExcInit
import HandS.ExcCtx
import KE.KStateDown
import HandS.Ends
import HandS.More
import HandS.Words
import HandS.WordsExc
import HandS.Defaults
import HandS.Head0
import HandS.Head1
import HandS.Head2
import HandS.HeadEnd
import HandS.HeadHook1
import HandS.HeadHook2
import HandS.ExcField
import KE.KIsAll
import KE.KExcIs
import HandS.Comp
import HandS.HotCalls
import HandS.IsInst
import HandS.ExcIs
import HandS.ExcOwn
import PySem.Challenge.RW_characterroads_k99_errors_of_the_program
import HandS.ForExc
import HandS.Wide
set_option Elab.async false
set_option linter.all false
set_option maxRecDepth 100000
set_option maxHeartbeats 4000000
/-! An own error over ValueError (any number of own classes between) whose __init__ is «super().__init__(f); self.f = f»: made by a call of its class. -/
namespace PySem
namespace SupX
open PySem.W PySem.Calls PyProof.Rows PySem.HandSPX
/-- the places in the text of one such __init__ -/
structure Ps where
  (a1 a2 q1 q2 q3 q4 q5 q6 q7 q8 q9 q10 : Pos)
def iA (f : Str) (p : Ps) : Arguments := { posonlyargs := [], args := [{ arg := "self", annotation := none, pos := p.a1 }, { arg := f, annotation := none, pos := p.a2 }], vararg := none, kwonlyargs := [], kw_defaults := [], kwarg := none, defaults := [] }
def iB (f : Str) (p : Ps) : List Stmt :=
  [.Expr (.Call (.Attribute (.Call (.Name "super" p.q1) [] [] p.q2) "__init__" p.q3) [.Name f p.q4] [] p.q5) p.q6, .Assign [.Attribute (.Name "self" p.q7) f p.q8] (.Name f p.q9) p.q10]
def iS (f : Str) : Scope := { kind := .function, names := [(PySem.Str.ofString "self", .local), (f, .local), (PySem.Str.ofString "__class__", .free), (PySem.Str.ofString "super", .globalImplicit)], isGenerator := false, isCoroutine := false, more := [] }
/-- how the two parameters are bound -/
def BindF (f : Str) : Prop := ∀ (qual : Str) (p : Ps) (doc pm cdv ct : Value) (an : Option Addr) (cc : Addr) (a b : Value),
  bindArgs (ksFn "__init__" qual (iA f p) (iB f p) (iS f) .none .none doc pm an cdv ct cc) ⟨[a, b], []⟩ = pure [(("self" : Str), a), (f, b)]
/-- what the written part says of the class at C and its __init__ at fI -/
structure SupTxt (prog : Program) (K : Frag) (C fI : Addr) (f qual : Str) : Prop where
  cls : ∃ nm q N bs bm sn sub ab col dd k0 k1 k2 k3 k5, K.lookup C = some (excClassObj nm q C N bs bm true sn sub ab col dd k0 k1 k2 k3 k5 "ValueError.__new__") ∧ refsVE bm = true
  sa : findIn K (.ref C) "__setattr__" = some (some (.builtin "object.__setattr__"))
  noN : findIn K (.ref C) f = some none
  iC : findIn K (.ref C) "__init__" = some (some (.ref fI))
  tC : typeIn K (.ref fI) = some (.type "function")
  kC : keepIn K (.ref C) = true
  exC : subIn K (.ref C) (.type "BaseException") = some true
  veC : subIn K (.ref C) (.type "ValueError") = some true
  tyC : typeIn K (.ref C) = some (.type "type")
  hdC : hasDictIn K C = true
  mrC : mroIn K C (.ref C) = some true
  sup : ks_superIn K C C "__init__" = some (some (.builtin "ValueError.__init__"))
  tp : nsIn K cStatics "thirdparty.any" = some none
  bnd : BindF f
  lkF : (iS f).names.lookup f = some .local
  lkK : (iS f).names.lookup ("__class__" : Str) = some .free
  lkS : (iS f).names.lookup ("super" : Str) = some .globalImplicit
  fS : (f == ("self" : Str)) = false
  fD : (f == ("__debug__" : Str)) = false
  fn : ∃ (oc : Value) (od : Option Addr) (doc pm : Value) (an : Option Addr) (ct : Value) (osl : Array (Option Value)) (p : Ps) (cc cda : Addr) (ccl cl : Value) (cdd cld : Option Addr) (ccs csl : Array (Option Value)) (vs : Array Value) (file : Str) (tf : Tok),
    K.lookup fI = some ⟨oc, od, .func (ksFn "__init__" qual (iA f p) (iB f p) (iS f) .none .none doc pm an (.ref cda) ct cc), osl⟩ ∧ codeIn K (.ref cda) qual = true ∧ (p.q3.endLine == p.q5.line) = true ∧
    K.lookup cda = some ⟨ccl, cdd, .fields vs, ccs⟩ ∧ vs[2]? = some (.str file tf) ∧ ((prog.main.file : Str) == file) = true ∧ (prog.main.scope.names.lookup ("super" : Str)).isSome = false ∧
    K.lookup cc = some ⟨cl, cld, .cell (some (.ref C)), csl⟩
/-- what __init__ leaves of a fresh exception at x -/
structure InitEnd (h h' : Heap) (x C dx t1 : Addr) (f : Str) (v : Value) : Prop where
  keep : ∀ b o, b ≠ x → h.get? b = some o → h'.get? b = some o
  obj : h'.get? x = some { cls := .ref C, dict := some dx, data := .fields #[.ref t1, .none, .none, .none, .bool false, .none] }
  dbig : h.objs.size ≤ dx
  dne : dx ≠ x
  ns : h'.Ns1 dx (fun y => if y = f then some v else none)
/-- a made one -/
structure OwnMade (h h' : Heap) (e C d : Addr) (f : Str) (v : Value) : Prop where
  keep : ∀ b o, h.get? b = some o → h'.get? b = some o
  new : h.objs.size ≤ e
  obj : ∃ oe vs, h'.get? e = some oe ∧ oe.cls = .ref C ∧ oe.dict = some d ∧ oe.data = .fields vs ∧ vs[1]? = some .none ∧ vs[2]? = some .none
  dbig : h.objs.size ≤ d
  dne : d ≠ e
  ns : h'.Ns1 d (fun y => if y = f then some v else none)
theorem one_size (v : Value) : [v].length ≤ sizeLine := by
  rw [sizeLine_eq]
  exact (by decide : 1 ≤ 16777216)
section
variable {prog : Program} {w : World} {A : Around} {E : Value → Shared → Prop} {R : Result → Shared → Prop} {s : Shared} {K : Frag} {mg mb : Str → Option Value} {C fI : Addr} {f qual : Str}
theorem call_mw {hp : Heap} {g : Array GenState} {d : Drawn} {t : Nat} {os : OsState} {nm q : Str} {N : Addr} {bs bm : List Value} {hdct : Bool} {sn : List Str} {sub : List Value} {ab : Bool} {col : Option Bool} {dd : Option Addr} {k0 k1 k2 k3 k5 : Option Value}
    {u e t0 : Addr} {rest : List Value} {Q : Value → Shared → Prop}
    (hC : hp.get? C = some (excClassObj nm q C N bs bm hdct sn sub ab col dd k0 k1 k2 k3 k5 "ValueError.__new__")) (he : hp.get? e = some (excO C t0)) (hu : hp.get? u = some (kxs_mw "ValueError.__init__" e)) (hrest : rest.length ≤ sizeLine)
    (hq : ∀ h' t1, (∀ b o, b ≠ e → hp.get? b = some o → h'.get? b = some o) → h'.get? e = some (excO C t1) → Q .none ⟨h', g, d, t, os⟩) :
    wpAny (model prog w) A (call (.ref u) rest) Q E ⟨hp, g, d, t, os⟩ := by
  refine wpAny_call (codeAny_of_tree ?_)
  show wpAny _ A.in1 (callAny (.ref u) ⟨rest, []⟩) _ _ _
  simp only [callAny]
  refine wpAny_bind (wpAny_load hu ?_)
  simp only [kxs_mw, show (Value.type "method-wrapper" == Value.type "method" || Value.type "method-wrapper" == Value.type "builtin_function_or_method" || Value.type "method-wrapper" == Value.type "method-wrapper") = true by decide, if_true]
  refine W.KFB.if_so (by decide) ?_
  refine wpAny_bind (check_bound_init F.excBase_ValueError.toExcCallFacts hC he rfl ?_)
  refine wpAny_bind (wpAny_pure (wpAny_pure ?_))
  refine ⟨plainId_quiet F.excBase_ValueError.init.plain _, codeAny_builtin F.excBase_ValueError.initEntry ?_⟩
  rw [Around.under_plainId F.excBase_ValueError.init.plain _]
  wp_walk
  refine hq _ hp.objs.size (fun b o hb ho => ?_) ?_
  · rw [Heap.get?_update_other _ _ (Ne.symm hb)]
    exact Heap.get?_push_of_some _ ho
  · rw [Heap.get?_update_self _ (Heap.get?_push_of_some _ he) rfl]
    rfl
theorem call_line {o : Expr} {name : Str} {apos pos : Pos} {args : List Expr} {env : Env} (hl : (apos.endLine == pos.line) = true) (hform : methodCallForm (args.length + ([] : List Keyword).length) (backTo pos (starEach args env)) (backToKw pos (keywordEach [] env)) = true) :
    eval (.Call (.Attribute o name apos) args [] pos) env = (do
      let ov ← attributeBase o name env (eval o env)
      standAt apos.atName
      let (f, first) ← holding [ov] (getMethod ov name (do return (← importBound o env).getD true))
      callWith pos f first (backTo pos (starEach args env)) []) := by
  rw [arm_eval_Call]
  unfold methodCall
  rw [hform]
  have hpos : methodCallPos true o env apos pos = pure pos := by unfold methodCallPos; simp [hl]
  rw [hpos]
  rfl
theorem ldA {M : Model} {s : Shared} {env : Env} {m : Str → Option Value} {x : Str} {pos : Pos} {v : Value} {Q : Value → Shared → Prop} (hk : env.scope.kind = .function) (hl : env.kindOf x = some .local) (hn : s.heap.Ns env.locals m) (hv : m x = some v) (h : Q v s)
    (hd : (x == ("__debug__" : Str)) = false) : wpAny M A (eval (.Name x pos) env) Q E s := wpAny_Name (wpAny_loadName_local hk hl hn hv h) hd
theorem binds_look {x : Addr} {v : Value} (hf : (f == ("self" : Str)) = false) : ([(("self" : Str), Value.ref x), (f, v)] : List (Str × Value)).reverse.lookup f = some v ∧ ([(("self" : Str), Value.ref x), (f, v)] : List (Str × Value)).reverse.lookup ("self" : Str) = some (.ref x) := by
  have h2 : (("self" : Str) == f) = false := by
    cases e : (("self" : Str) == f) with
    | false => rfl
    | true =>
      have z := beq_iff_eq.mp e
      rw [← z] at hf
      simp at hf
  constructor
  · simp [List.lookup]
  · simp [List.lookup, h2]
theorem sup_init (T : SupTxt prog K C fI f qual) {x t0 : Addr} {v : Value} (X : K.In s.heap) (G : s.heap.Ns mainGlobals mg) (hmg : mg "super" = none) (Bn : s.heap.Ns builtinsNs mb) (hmb : mb "super" = some (.type "super")) (hlim : s.heap.NoLimit)
    (hx : s.heap.get? x = some (excO C t0)) (hnx : K.lookup x = none) (hroom : A.depth < recursionLimit)
    (hq : ∀ h' tk dx t1, InitEnd s.heap h' x C dx t1 f v → R (.ok (.ret .none)) { s with heap := h', toks := tk }) :
    codeAny (model prog w) A (.call (.ref fI) ⟨[.ref x, v], []⟩) R s := by
  obtain ⟨oc, od, doc, pm, an, ct, osl, p, cc, cda, ccl, cl, cdd, cld, ccs, csl, vs, file, tf, ho, hcd, hline, hcode, hvs, hfile, htop, hcell⟩ := T.fn
  obtain ⟨nm, q, N, bs, bm, sn, sub, ab, col, dd, k0, k1, k2, k3, k5, hC, hbm⟩ := T.cls
  have hcl : clsIn K C = some { name := nm, bases := bs, mro := .ref C :: bm, ns := N, qualname := q, hasDict := true, slotNames := sn, subclasses := sub, abstract := ab, collection := col, hasDel := false } := by unfold clsIn; rw [hC] <;> rfl
  obtain ⟨lkf, lks⟩ := binds_look (x := x) (v := v) T.fS
  refine ks_codeAny_call_defAt (fd := ksFn "__init__" qual (iA f p) (iB f p) (iS f) .none .none doc pm an (.ref cda) ct cc) (body := iB f p) (binds := [("self", .ref x), (f, v)]) hroom (X _ _ ho) rfl hlim (codeRec_of X hcd) rfl
    (BindsTo.of_eq (T.bnd _ _ _ _ _ _ _ _ _ _)) ?hcell ?hloc (fun h₁ hns k => ?_) rfl rfl rfl
  case hcell =>
    intro y hy
    simp only [ksFn, fnX, iS, List.mem_cons, List.not_mem_nil, or_false] at hy
    rcases hy with rfl | rfl | rfl | rfl <;> simp
  case hloc =>
    intro y hy
    simp only [List.mem_cons, List.not_mem_nil, or_false] at hy
    rcases hy with rfl | rfl
    · rfl
    · exact T.lkF
  have X₁ : K.In h₁ := X.keeps k
  have hx₁ := k _ _ hx
  have hxL : s.heap.objs.size ≠ x := Nat.ne_of_gt (Heap.lt_size hx)
  obtain ⟨hp, g, d, tk, os⟩ := s
  have I1 : InstAt h₁ x (excO C t0) C none := ⟨hx₁, rfl, rfl, trivial⟩
  obtain ⟨oD, hD1, hD2⟩ : ∃ oD, h₁.get? C = some oD ∧ oD.data = .cls { name := nm, bases := bs, mro := .ref C :: bm, ns := N, qualname := q, hasDict := true, slotNames := sn, subclasses := sub, abstract := ab, collection := col, hasDel := false } := ⟨_, X₁ _ _ hC, rfl⟩
  -- super().__init__(f)
  refine ks_wpAt_execs_cons (ks_wpAt_Expr_any (ks_wpAt_MethodCall (pl := do return (← importBound (.Call (.Name "super" p.q1) [] [] p.q2) (callEnv (ksFn "__init__" qual (iA f p) (iB f p) (iS f) .none .none doc pm an (.ref cda) ct cc) hp.objs.size fI)).getD true) ?_ (call_line hline rfl)))
  refine ks_wpAt_super_base (env := callEnv (ksFn "__init__" qual (iA f p) (iB f p) (iS f) .none .none doc pm an (.ref cda) ct cc) hp.objs.size fI) T.lkS T.lkK rfl rfl (X₁ _ _ ho) rfl rfl rfl (X₁ _ _ hcode) rfl hvs hfile htop ?_
  refine ks_loadName_global rfl T.lkS (loadGlobal_builtin (G.keeps k) hmg (Bn.keeps k) hmb ⟨rfl, ?_⟩)
  refine wpAny_loadName_free rfl T.lkK rfl ⟨_, X₁ _ _ hcell, rfl⟩ ?_
  refine wpAny_loadName_local rfl rfl hns lks ?_
  refine ks_wpAny_isType_cls hD1 hD2 ⟨rfl, ?_⟩
  refine ks_wpAny_call_super hD1 hD2 hx₁ rfl (fun c e => by cases e) (looks_mroIn X₁ T.mrC) (fun h₂ e₂ k₂ => ?_)
  have X₂ : K.In h₂ := X₁.keeps k₂
  have hx₂ := k₂ _ _ hx₁
  have I2 : InstAt h₂ x (excO C t0) C none := ⟨hx₂, rfl, rfl, trivial⟩
  have hm := T.sup
  unfold ks_superIn at hm
  rw [hcl] at hm
  refine kxs_getMethod kxs_ValueError e₂ (looks_opaque X₂ T.tp) (l₀ := .ref C :: bm) ?_ rfl X₂ hm (I2.type.andThen (looks_subIn X₂ T.veC)) (ks_ne X₂ I2 hcl) rfl ?_
  · exact fun A Q E s k q => wpAny_bind ((looks_clsIn X₂ hcl) A _ E s k (wpAny_pure q))
  have ku : (h₂.push (kxs_mw "ValueError.__init__" x)).get? h₂.objs.size = some (kxs_mw "ValueError.__init__" x) := Heap.get?_push_at rfl rfl
  have k₃ : ∀ b o, h₂.get? b = some o → (h₂.push (kxs_mw "ValueError.__init__" x)).get? b = some o := fun b o e => Heap.get?_push_of_some _ e
  have hn₃ := (hns.keeps k₂).keeps k₃
  refine kxs_callWith (i := "ValueError.__init__") (x := x) rfl (evalArgs_plain (rest := []) ?_)
  refine spliced_cons ?_
  rw [if_neg Bool.false_ne_true]
  refine ldA (v := v) rfl T.lkF hn₃ lkf ?_ T.fD
  refine spliced_nil ⟨ku, ?_⟩
  refine call_mw (X₂.keeps k₃ _ _ hC) (k₃ _ _ hx₂) ku (one_size v) (fun h₄ t4 k4 hx4 => ?_)
  have X₄ : K.In h₄ := fun a o e => k4 a o (fun z => by rw [z, hnx] at e; cases e) (k₃ _ _ (X₂ a o e))
  have nx : hp.objs.size ≠ x := hxL
  have hn₄ : h₄.Ns hp.objs.size _ := hn₃.at fun o e => k4 _ o nx e
  -- self.f = f
  refine ks_wpAt_execs_cons (wpAt_of_wpAny (plainObj_wpAny_Assign_Attribute ?_))
  refine ldA (v := v) rfl T.lkF hn₄ lkf ?_ T.fD
  refine ldA (v := .ref x) rfl rfl hn₄ lks ?_ rfl
  refine set_plain X₄ (ox := excO C t4) (od := none) ⟨hx4, rfl, rfl, trivial⟩ T.sa ?_
  refine exc_osa X₄ hx4 hcl (show refsVE (.ref C :: bm) = true from hbm) rfl T.noN (fun h₅ tk₅ dx k₅ dn dne hx₅ hn₅ => ?_)
  exact wpAt_of_wpAny (wpAny_execs_nil (hq h₅ tk₅ dx t4 ⟨fun b o hb e => k₅ b o hb (k4 b o hb (k₃ _ _ (k₂ _ _ (k b o e)))), hx₅, Nat.le_trans (Nat.le_of_lt hn₄.lt) dn, dne, hn₅⟩))
theorem sup_made (T : SupTxt prog K C fI f qual) {v : Value} (X : K.In s.heap) (G : s.heap.Ns mainGlobals mg) (hmg : mg "super" = none) (Bn : s.heap.Ns builtinsNs mb) (hmb : mb "super" = some (.type "super")) (hlim : s.heap.NoLimit) (hroom : A.depth + 1 < recursionLimit)
    (hq : ∀ h' tk e d, OwnMade s.heap h' e C d f v → R (.ok (.ret (.ref e))) { s with heap := h', toks := tk }) :
    codeAny (model prog w) A (.call (.ref C) ⟨[v], []⟩) R s := by
  obtain ⟨nm, q, N, bs, bm, sn, sub, ab, col, dd, k0, k1, k2, k3, k5, hC, hbm⟩ := T.cls
  obtain ⟨hp, g, dr, tk, os⟩ := s
  have k : ∀ b o, hp.get? b = some o → ((hp.push (kdv_tup [v])).push (excO C hp.objs.size)).get? b = some o := fun b o e => Heap.get?_push_of_some _ (Heap.get?_push_of_some _ e)
  have hget : ((hp.push (kdv_tup [v])).push (excO C hp.objs.size)).get? (hp.objs.size + 1) = some (excO C hp.objs.size) := by heap_get
  have hnx : K.lookup (hp.objs.size + 1) = none := by
    cases e : K.lookup (hp.objs.size + 1) with
    | none => rfl
    | some o =>
      have z : hp.get? (hp.objs.size + 1) = some o := X _ _ e
      exact absurd (Nat.lt_of_succ_lt (Heap.lt_size z)) (Nat.lt_irrefl _)
  refine call_own F.excBase_ValueError (fun X => refsVE_contains X bm hbm) (X _ _ hC) (looks_findIn X T.iC) (fun self => bind_fn X self T.tC) (one_size v) ?_
  refine sup_init (s := ⟨(hp.push (kdv_tup [v])).push (excO C hp.objs.size), g, dr, tk, os⟩) T (X.keeps k) (G.keeps k) hmg (Bn.keeps k) hmb (hlim.keeps k) hget hnx ?_ fun h' tk' dx t1 ⟨k', hx, dn, dne, hns⟩ => ?_
  · show A.depth + 1 < recursionLimit
    exact hroom
  · have old : ∀ b o, hp.get? b = some o → h'.get? b = some o := fun b o e => k' b o (Nat.ne_of_lt (Nat.lt_succ_of_lt (Heap.lt_size e))) (k b o e)
    have z : hp.objs.size + 1 + 1 ≤ dx := by
      first
        | (simpa only [Heap.size_push] using dn)
        | exact dn
        | (have q := dn; rw [Heap.size_push, Heap.size_push] at q; exact q)
    exact ⟨rfl, hq h' tk' (hp.objs.size + 1) dx ⟨old, Nat.le_succ _, ⟨_, _, hx, rfl, rfl, rfl, rfl, rfl⟩, Nat.le_trans (Nat.le_trans (Nat.le_succ _) (Nat.le_succ _)) z, dne, hns⟩⟩
end
end SupX
end PySem
namespace L2
open PySem PySem.Spec PyProof.Rows
theorem relO_one {v : V} {v' : Value} (r : RelV v v') (g f : Str) : RelO (List.lookup f [((g : Str), v)]) (if f = g then some v' else none) := by
  by_cases hw : f = g
  · subst hw
    rw [if_pos rfl]
    have q : List.lookup f [((f : Str), v)] = some v := by simp [List.lookup]
    rw [q]
    exact r
  · rw [if_neg hw]
    have e3 : (f == g) = false := by simpa using hw
    have q2 : List.lookup f [((g : Str), v)] = none := by simp [List.lookup, e3]
    rw [q2]
    trivial
section
variable {X : Cx} {C fI : Addr} {f qual : Str}
/-- C(e) -/
def tMkSup (C : Addr) (f : Str) (ta : TA) : St → Hp → XK → Prop := fun σ H Q => ta σ H fun vs H1 => ∃ v, vs = [v] ∧ ∀ d, H1 d = none → Q (.ref C) (some d) (upd H1 d (.xd [(f, v)]))
theorem pmk_sup {a : Expr} {ta : TA} {p pos : Pos} {k : Nat} {x : Str} (T : PySem.SupX.SupTxt X.prog X.K C fI f qual) (gS : X.mg "super" = none) (gC : X.mg x = some (.ref C)) (hr : Room k X.A) (ha : PA X [a] ta) (hg : Gl X x)
    (hdb : (x == ("__debug__" : Str)) = false := by decide)
    (he : starEach (a :: []) X.env = (false, eval a X.env) :: starEach [] X.env := by rfl) (hpl : (backTo pos (starEach [] X.env)).any (·.1) = false := by rfl) :
    PMk X (.Call (.Name x p) [a] [] pos) (tMkSup C f ta) := by
  intro pins s σ H Q I h
  refine wpAny_Call_Name_kw (ld_glob I hg gC ?_ hdb)
  refine PySem.W.callWith_K (h₀ := X.base) I.ok.mod.kin T.kC (thn (ha.run pos pins s σ H _ I h) fun us s1 hh => ?_) he hpl
  obtain ⟨vs, H1, I1, r1, v, ev, q1⟩ := hh
  subst ev
  refine ⟨I1.kIn, ?_⟩
  cases r1 with
  | cons rv rn =>
    rename_i v' us'
    cases rn
    show wpAny _ _ (call (.ref C) [v']) _ _ _
    have hlim := I1.nolimit
    obtain ⟨mb, hb1, hb2⟩ := I1.mod.blt
    have hbk := I1.bk
    obtain ⟨hp, g, dr, tk, os⟩ := s1
    refine wpAny_call (PySem.SupX.sup_made T I1.kIn (I1.mod.glob.keeps hbk) gS (hb1.keeps hbk) ((hb2 _ (by decide)).trans (by decide +kernel)) hlim (by have := hr.dp; omega) fun h' tk' e d M => ?_)
    show MkP X pins σ Q (.ref e) ⟨h', g, dr, tk', os⟩
    obtain ⟨oe, fv, hoe, hc, hd, hdat, h1, _⟩ := M.obj
    have hns := M.ns
    obtain ⟨G', g1, g2⟩ := restrict h' fun b => decide (b ≠ e)
    have gk : ∀ b, b ≠ e → G'.get? b = h'.get? b := fun b hb => g1 b (decide_eq_true hb)
    have ge : G'.get? e = none := g2 e (by simp)
    have old : ∀ b o, hp.get? b = some o → G'.get? b = some o := fun b o q => (gk b (Nat.ne_of_lt (Nat.lt_of_lt_of_le (Heap.lt_size q) M.new))).trans (M.keep b o q)
    have ob : ObjOk X.prog X.w (upd H1 d (.xd [(f, v)])) G' d (.xd [(f, v)]) :=
      ⟨_, hns.at (fun o q => (gk d M.dne).trans q), fun g => relO_one rv f g⟩
    have J : Inv X pins σ (upd H1 d (.xd [(f, v)])) ⟨G', g, dr, tk', os⟩ := I1.laid (t' := tk') old M.dbig ob
    refine ⟨e, oe, fv, ⟨G', g, dr, tk', os⟩, _, .ref C, some d, rfl, J, fun b o q => ?_, ge, hoe, ⟨hc, hd⟩, hdat, h1, ?_, rfl, I1.bare, raises_own T.exC T.tyC, q1 d (I1.hok.fresh M.dbig)⟩
    · by_cases hb : b = e
      · have q' : G'.get? b = some o := q
        rw [hb, ge] at q'; cases q'
      · exact (gk b hb).symm.trans q
    · rw [upd_ne (Ne.symm M.dne)]
      exact I1.hok.fresh M.new
theorem pmk_supN {a : Expr} {ta : TA} {p pos : Pos} {k : Nat} {x : Str} (T : PySem.SupX.SupTxt X.prog X.K C fI f qual) (gS : X.mg "super" = none) (gC : X.mg x = some (.ref C)) (hr : Room k X.A) (ha : PA X [a] ta) (hg : Gl X x)
    (hdb : (x == ("__debug__" : Str)) = false := by decide)
    (he : starEach (a :: []) X.env = (false, eval a X.env) :: starEach [] X.env := by rfl) (hpl : (backTo pos (starEach [] X.env)).any (·.1) = false := by rfl) :
    L2N.PMk X (.Call (.Name x p) [a] [] pos) (tMkSup C f ta) := by
  intro pins s σ H Q I h
  refine wpAny_Call_Name_kw (ld_glob I hg gC ?_ hdb)
  refine PySem.W.callWith_K (h₀ := X.base) I.ok.mod.kin T.kC (thn (ha.run pos pins s σ H _ I h) fun us s1 hh => ?_) he hpl
  obtain ⟨vs, H1, I1, r1, v, ev, q1⟩ := hh
  subst ev
  refine ⟨I1.kIn, ?_⟩
  cases r1 with
  | cons rv rn =>
    rename_i v' us'
    cases rn
    show wpAny _ _ (call (.ref C) [v']) _ _ _
    have hlim := I1.nolimit
    obtain ⟨mb, hb1, hb2⟩ := I1.mod.blt
    have hbk := I1.bk
    obtain ⟨hp, g, dr, tk, os⟩ := s1
    refine wpAny_call (PySem.SupX.sup_made T I1.kIn (I1.mod.glob.keeps hbk) gS (hb1.keeps hbk) ((hb2 _ (by decide)).trans (by decide +kernel)) hlim (by have := hr.dp; omega) fun h' tk' e d M => ?_)
    show L2N.MkP X pins σ Q (.ref e) ⟨h', g, dr, tk', os⟩
    obtain ⟨oe, fv, hoe, hc, hd, hdat, h1, h2⟩ := M.obj
    have hns := M.ns
    obtain ⟨G', g1, g2⟩ := restrict h' fun b => decide (b ≠ e)
    have gk : ∀ b, b ≠ e → G'.get? b = h'.get? b := fun b hb => g1 b (decide_eq_true hb)
    have ge : G'.get? e = none := g2 e (by simp)
    have old : ∀ b o, hp.get? b = some o → G'.get? b = some o := fun b o q => (gk b (Nat.ne_of_lt (Nat.lt_of_lt_of_le (Heap.lt_size q) M.new))).trans (M.keep b o q)
    have ob : ObjOk X.prog X.w (upd H1 d (.xd [(f, v)])) G' d (.xd [(f, v)]) :=
      ⟨_, hns.at (fun o q => (gk d M.dne).trans q), fun g => relO_one rv f g⟩
    have J : Inv X pins σ (upd H1 d (.xd [(f, v)])) ⟨G', g, dr, tk', os⟩ := I1.laid (t' := tk') old M.dbig ob
    refine ⟨e, oe, fv, ⟨G', g, dr, tk', os⟩, _, .ref C, some d, rfl, J, fun b o q => ?_, ge, hoe, ⟨hc, hd, fun vs e => by
      rw [hdat] at e
      cases e
      exact h2⟩, hdat, h1, ?_, rfl, I1.bare, raises_own T.exC T.tyC, q1 d (I1.hok.fresh M.dbig)⟩
    · by_cases hb : b = e
      · have q' : G'.get? b = some o := q
        rw [hb, ge] at q'; cases q'
      · exact (gk b hb).symm.trans q
    · rw [upd_ne (Ne.symm M.dne)]
      exact I1.hok.fresh M.new
end
end L2
set_option Elab.async false
set_option linter.all false
set_option maxRecDepth 100000
set_option maxHeartbeats 4000000
/-! What a law leans on of the top's end, read off the heap by a walk from the module's names with a bit for each address that was met. -/
namespace HS
open PySem PySem.Spec PyProof.Rows L2 He
/-- the addresses that the work list reaches -/
def walk (g : Addr → Option Obj) : Nat → List Addr → Nat → List Addr → List Addr
  | 0, _, _, acc => acc
  | _ + 1, [], _, acc => acc
  | n + 1, a :: r, seen, acc => match Nat.testBit seen a with
    | true => walk g n r seen acc
    | false => (match g a with
      | some o => walk g n (refsD o ++ r) (Nat.lor seen (Nat.shiftLeft 1 a)) (a :: acc)
      | none => walk g n r (Nat.lor seen (Nat.shiftLeft 1 a)) acc)
/-- the j-th statement of a class's body -/
def clsM (st : Stmt) (j : Nat) : Stmt := match st with
  | .ClassDef _ _ _ b _ _ _ _ _ _ _ => b.getD j (.Pass ⟨0, 0, 0, 0⟩)
  | _ => .Pass ⟨0, 0, 0, 0⟩
/-! ### errors with super().__init__ -/
structure SupD where
  cls : Str
  fld : Str
  qual : Str
  p : PySem.SupX.Ps
abbrev FnS : Type := Option (Str × Str × Arguments × FuncBody × Scope × Addr × Value × Value × Addr)
def supObs (K : PySem.W.Frag) (d : SupD) : FnS := match K.lookup (ma K (ga K d.cls) "__init__") with
  | some ⟨_, _, .func fd, _⟩ => some (fd.name, fd.qualname, fd.params, fd.body, fd.scope, fd.globals, fd.defaults, fd.kwdefaults, fd.builtins)
  | _ => none
def SupD.val (d : SupD) : FnS := some ("__init__", d.qual, PySem.SupX.iA d.fld d.p, .stmts (PySem.SupX.iB d.fld d.p), PySem.SupX.iS d.fld, mainGlobals, .none, .none, builtinsNs)
def clsVE (K : PySem.W.Frag) (C : Addr) : Bool := match K.lookup C with
  | some ⟨.type "type", _, .cls cd, sl⟩ => (match cd.mro, sl.toList with
    | .ref C' :: bm, [_, _, _, _, some (.builtin n), _] => C' == C && n == "ValueError.__new__" && !cd.hasDel && cd.hasDict && PySem.HandSPX.refsVE bm
    | _, _ => false)
  | _ => false
theorem clsVE_ok {K : PySem.W.Frag} {C : Addr} (q : clsVE K C = true) :
    ∃ nm q N bs bm sn sub ab col dd k0 k1 k2 k3 k5, K.lookup C = some (excClassObj nm q C N bs bm true sn sub ab col dd k0 k1 k2 k3 k5 "ValueError.__new__") ∧ PySem.HandSPX.refsVE bm = true := by
  unfold clsVE at q
  split at q
  · rename_i dd cd sl ho
    split at q
    · rename_i C' bm k0 k1 k2 k3 n k5 hm hs
      simp only [Bool.and_eq_true, beq_iff_eq, Bool.not_eq_true'] at q
      obtain ⟨⟨⟨⟨rfl, rfl⟩, hdel⟩, hdc⟩, ht⟩ := q
      obtain ⟨nm, bs, mro, ns, qn, hd, sn, sub, ab, col, del⟩ := cd
      dsimp only at hm hdel hdc
      subst hm hdel hdc
      have hsl : sl = #[k0, k1, k2, k3, some (.builtin "ValueError.__new__"), k5] := by
        obtain ⟨l⟩ := sl
        simp only at hs
        rw [hs]
      subst hsl
      exact ⟨nm, qn, ns, bs, bm, sn, sub, ab, col, dd, k0, k1, k2, k3, k5, ho, ht⟩
    · cases q
  · cases q
def supFn (prog : Program) (K : PySem.W.Frag) (C fI : Addr) (qual : Str) : Bool := match K.lookup fI with
  | some ⟨_, _, .func fd, _⟩ => (match fd.code, fd.closure with
    | .ref cda, [(n, cc)] => decide (n = "__class__") && (PySem.W.codeIn K (.ref cda) qual && ((match K.lookup cda with
      | some ⟨_, _, .fields vs, _⟩ => (match (vs[2]? : Option Value) with
        | some (Value.str file _) => prog.main.file == file
        | _ => false)
      | _ => false) && (match K.lookup cc with
      | some ⟨_, _, .cell (some (.ref D)), _⟩ => decide (D = C)
      | _ => false)))
    | _, _ => false)
  | _ => false
def supB (prog : Program) (K : PySem.W.Frag) (d : SupD) : Bool :=
  clsVE K (ga K d.cls) && (eqO (PySem.W.findIn K (.ref (ga K d.cls)) "__setattr__") (some (some (.builtin "object.__setattr__"))) && (eqO (PySem.W.findIn K (.ref (ga K d.cls)) d.fld) (some none) &&
  (eqO (PySem.W.findIn K (.ref (ga K d.cls)) "__init__") (some (some (.ref (ma K (ga K d.cls) "__init__")))) && (decide (PySem.W.typeIn K (.ref (ma K (ga K d.cls) "__init__")) = some (.type "function")) && (PySem.W.keepIn K (.ref (ga K d.cls)) &&
  (decide (PySem.W.subIn K (.ref (ga K d.cls)) (.type "BaseException") = some true) && (decide (PySem.W.subIn K (.ref (ga K d.cls)) (.type "ValueError") = some true) && (decide (PySem.W.typeIn K (.ref (ga K d.cls)) = some (.type "type")) &&
  (PySem.W.hasDictIn K (ga K d.cls) && (decide (PySem.W.mroIn K (ga K d.cls) (.ref (ga K d.cls)) = some true) && (eqO (PySem.W.ks_superIn K (ga K d.cls) (ga K d.cls) "__init__") (some (some (.builtin "ValueError.__init__"))) &&
  (eqO (PySem.W.nsIn K cStatics "thirdparty.any") (some none) && (supFn prog K (ga K d.cls) (ma K (ga K d.cls) "__init__") d.qual && (!(prog.main.scope.names.lookup ("super" : Str)).isSome && (d.p.q3.endLine == d.p.q5.line)))))))))))))))
/-- what of the field's name is decided by itself -/
structure SupN (f : Str) : Prop where
  bnd : PySem.SupX.BindF f
  lkF : (PySem.SupX.iS f).names.lookup f = some .local
  lkK : (PySem.SupX.iS f).names.lookup ("__class__" : Str) = some .free
  lkS : (PySem.SupX.iS f).names.lookup ("super" : Str) = some .globalImplicit
  fS : (f == ("self" : Str)) = false
  fD : (f == ("__debug__" : Str)) = false
theorem sup_ok {prog : Program} {K : PySem.W.Frag} {d : SupD} (n : SupN d.fld) (e : supObs K d = d.val) (c : supB prog K d = true) : PySem.SupX.SupTxt prog K (ga K d.cls) (ma K (ga K d.cls) "__init__") d.fld d.qual := by
  unfold supB at c
  simp only [Bool.and_eq_true] at c
  obtain ⟨c1, c2, c3, c4, c5, c6, c7, c8, c9, c10, c11, c12, c13, c14, c15, c16⟩ := c
  refine ⟨clsVE_ok c1, eqO_ok c2, eqO_ok c3, eqO_ok c4, of_decide_eq_true c5, c6, of_decide_eq_true c7, of_decide_eq_true c8, of_decide_eq_true c9, c10, of_decide_eq_true c11, eqO_ok c12, eqO_ok c13, n.bnd, n.lkF, n.lkK, n.lkS, n.fS, n.fD, ?_⟩
  unfold supFn at c14
  unfold supObs at e
  cases q : K.lookup (ma K (ga K d.cls) "__init__") with
  | none =>
    rw [q] at c14
    cases c14
  | some o =>
    obtain ⟨oc, od, dt, osl⟩ := o
    rw [q] at c14 e
    cases dt with
    | func fd =>
      obtain ⟨n1, n2, n3, n4, n5, n6, n7, n8, n9, n10, n11, n12, n13, n14, n15⟩ := fd
      have e2 : (some (n1, n2, n3, n4, n5, n6, n8, n9, n15) : FnS) = (some ("__init__", d.qual, PySem.SupX.iA d.fld d.p, .stmts (PySem.SupX.iB d.fld d.p), PySem.SupX.iS d.fld, mainGlobals, .none, .none, builtinsNs) : FnS) := e
      simp only [Option.some.injEq, Prod.mk.injEq] at e2
      obtain ⟨h1, h2, h3, h4, h5, h6, h7, h8, h9⟩ := e2
      subst h1 h2 h3 h4 h5 h6 h7 h8 h9
      cases n13 with
      | ref cda =>
        match n7, c14 with
        | [(nm, cc)], c14 =>
          have c17 : (decide (nm = "__class__") && (PySem.W.codeIn K (.ref cda) d.qual && ((match K.lookup cda with
            | some ⟨_, _, .fields vs, _⟩ => (match (vs[2]? : Option Value) with
              | some (Value.str file _) => prog.main.file == file
              | _ => false)
            | _ => false) && (match K.lookup cc with
            | some ⟨_, _, .cell (some (.ref D)), _⟩ => decide (D = ga K d.cls)
            | _ => false)))) = true := c14
          obtain ⟨c18, c19⟩ := ba c17
          obtain ⟨c20, c21⟩ := ba c19
          obtain ⟨c22, c23⟩ := ba c21
          have en := of_decide_eq_true c18
          subst en
          split at c22
          · rename_i ccl cdd vs ccs hcode
            split at c22
            · rename_i file tf hvs
              split at c23
              · rename_i cl cld D csl hcell
                have eD := of_decide_eq_true c23
                subst eD
                exact ⟨oc, od, n10, n11, n12, n14, osl, d.p, cc, cda, ccl, cl, cdd, cld, ccs, csl, vs, file, tf, rfl, c20, c16, hcode, hvs, c22, by simpa using c15, hcell⟩
              · cases c23
            · cases c22
          · cases c22
        | [], c14 => cases c14
        | _ :: _ :: _, c14 => cases c14
      | _ => cases c14
    | _ => cases c14
/-! ### the Hook -/
structure Ask where
  steps : Nat
  fa : List Fa
  fn : List DefD
  sup : List SupD
  more : PySem.W.Frag → Bool := fun _ => true
abbrev AlS : Type := Bool × List FnW × List FnS
def obsK (prog : Program) (q : Ask) (K : PySem.W.Frag) : AlS :=
  ((q.fa.all fun f => f.ok K) && ((q.fn.all fun d => d.ok K) && ((q.sup.all fun d => supB prog K d) && q.more K)), q.fn.map fun d => fnW K d.at_, q.sup.map fun d => supObs K d)
def valS (q : Ask) : AlS := (true, q.fn.map DefD.val, q.sup.map SupD.val)
def Says (prog : Program) (q : Ask) (K : PySem.W.Frag) : Prop := obsK prog q K = valS q
def obsG (prog : Program) (q : Ask) (g : Addr → Option Obj) : AlS := obsK prog q (frG g (walk g q.steps [cStatics, mainGlobals] 0 []))
def hook (prog : Program) (q : Ask) : PySem.W.Hook where
  α := AlS
  obs := fun s => obsG prog q s.heap.get?
  val := fun _ => valS q
  says := fun _ h => ∃ K : PySem.W.Frag, K.In h ∧ Says prog q K
  of := fun _ _ e => ⟨_, frG_in, e⟩
  keeps := fun _ _ _ ⟨K, hK, c⟩ k => ⟨K, PySem.W.Frag.In.keeps hK k, c⟩
theorem obsG_eq {prog : Program} {q : Ask} {g : Addr → Option Obj} {s : Shared} (h : ∀ a, g a = s.heap.get? a) : obsG prog q g = (hook prog q).obs s := by
  have e : g = s.heap.get? := funext h
  rw [e] <;> rfl
section
variable {prog : Program} {q : Ask} {K : PySem.W.Frag}
theorem Says.parts (c : Says prog q K) : (∀ f ∈ q.fa, f.ok K = true) ∧ (∀ d ∈ q.fn, d.ok K = true) ∧ (∀ d ∈ q.sup, supB prog K d = true) ∧ q.more K = true := by
  have c0 : ((q.fa.all fun f => f.ok K) && ((q.fn.all fun d => d.ok K) && ((q.sup.all fun d => supB prog K d) && q.more K))) = true := congrArg (fun z : AlS => z.1) c
  obtain ⟨c1, c2⟩ := ba c0
  obtain ⟨c3, c4⟩ := ba c2
  obtain ⟨c5, c6⟩ := ba c4
  exact ⟨List.all_eq_true.mp c1, List.all_eq_true.mp c3, List.all_eq_true.mp c5, c6⟩
theorem Says.fact (c : Says prog q K) {f : Fa} (h : f ∈ q.fa) : f.ok K = true := c.parts.1 f h
theorem map_at {α β : Type} {f g : α → β} : ∀ {l : List α}, l.map f = l.map g → ∀ x ∈ l, f x = g x
  | [], _, x, h => absurd h (by simp)
  | a :: l, e, x, h => by
    have e1 := List.cons.inj e
    rcases List.mem_cons.mp h with rfl | h
    · exact e1.1
    · exact map_at e1.2 x h
theorem Says.def_ (c : Says prog q K) {d : DefD} (h : d ∈ q.fn) : ∃ fd, FunD K d.name d.qual d.params d.body d.scope (d.dvs K) (d.kws K) (fAd K d.at_) fd :=
  DefD.funD (map_at (congrArg (fun z : AlS => z.2.1) c) d h) (c.parts.2.1 d h)
theorem Says.supd (c : Says prog q K) {d : SupD} (h : d ∈ q.sup) (n : SupN d.fld) : PySem.SupX.SupTxt prog K (ga K d.cls) (ma K (ga K d.cls) "__init__") d.fld d.qual :=
  sup_ok n (map_at (congrArg (fun z : AlS => z.2.2) c) d h) (c.parts.2.2.1 d h)
end
theorem supN_reason : SupN "reason" := ⟨fun _ _ _ _ _ _ _ _ _ _ => rfl, rfl, rfl, rfl, rfl, rfl⟩
theorem supN_at : SupN "at" := ⟨fun _ _ _ _ _ _ _ _ _ _ => rfl, rfl, rfl, rfl, rfl, rfl⟩
end HS
set_option Elab.async false
set_option linter.all false
set_option maxRecDepth 100000
set_option maxHeartbeats 4000000
/-! a list comprehension over a range within an except suite; isinstance of the error there; a class called whose __init__ may raise -/
namespace L2H
open PySem PySem.Spec PyProof.Rows L2 HotX
theorem block_pin {X : Cx} {s s' : Shared} {H H' : Hp} {scope : Scope} {ce : Env} {fp : List Addr} {σ σ' : St} {pins : List (Addr × Obj)} {p : Addr × Obj} (I : Inv X pins σ H s) (hp : p ∈ X.pn ++ pins) (hL : s.heap.objs.size ≤ ce.locals) (hS : X.stack = X.env :: X.outer) (hf : X.env.frame = some X.env.locals)
    (J : Inv (X.blk s H scope ce fp) [] σ' H' s') (hH : H' p.1 = none) (hk : s'.heap.get? p.1 = some p.2) : Inv { X.blk s H scope ce fp with pn := [p] } [] σ' H' s' := by
  obtain ⟨g, hn, nl, nf, nc⟩ := I.pin p hp
  refine ⟨⟨J.ok.mod, J.ok.kind, J.ok.glob, J.ok.blt, J.ok.above, J.ok.inj, J.ok.has, J.ok.cab, J.ok.hd, J.ok.frames, J.ok.stk, J.ok.exf, J.ok.bs, J.ok.bsz, J.ok.noex, J.ok.exfs, J.ok.funs, J.ok.frf⟩, J.os, J.bare, J.base, J.loc, J.cell, J.free, J.freeC, fun q hq => ?_, J.hok, J.len⟩
  have e : q = p := by simpa using (show q ∈ [p] ++ ([] : List (Addr × Obj)) from hq)
  subst e
  refine ⟨hk, hH, Nat.ne_of_lt (Nat.lt_of_lt_of_le (Heap.lt_size g) hL), ?_, nc⟩
  show q.1 ∉ frs X.stack
  rw [hS]
  intro hm
  obtain ⟨e, he, z⟩ := List.mem_filterMap.mp hm
  rcases List.mem_cons.mp he with rfl | he
  · rw [hf] at z
    exact nl (Option.some.inj z).symm
  · exact nf (List.mem_filterMap.mpr ⟨e, he, z⟩)
abbrev BH (X : Cx) (s : Shared) (H : Hp) (scope : Scope) (ce : Env) (fp : List Addr) (p : Addr × Obj) : Cx := { X.blk s H scope ce fp with pn := [p] }
section
variable {X : Cx}
theorem lc_coreH {pins : List (Addr × Obj)} {p : Addr × Obj} {s : Shared} {σ : St} {H : Hp} {Q : VK} {elt tg iter : Expr} {ifs : List Expr} {scope : Scope} {own : List (Str × Nat)} {pos pos' : Pos} {wi : TI} {g : TG} {tt : TT} {te : TE} {use : Option (Value → Sem Unit)} {Qf : Value → Shared → Prop}
    (hst : X.stack = X.env :: X.outer) (hfe : X.env.frame = some X.env.locals) (h1 : Hot1 X.A p) (hp : p ∈ X.pn) (hN : X.N.Nodup) (I : Inv X pins σ H s) (hi : PIH X tg iter wi) (ok : BlkOk X.N X.env.scope scope own)
    (hg : ∀ (s : Shared) (H : Hp) (C : Addr) (cl : List (Str × Addr)) (fp : List Addr), PG ({ X.blk s H scope (compEnvC scope cl C X.env) fp with pn := [p] }) tg g) (ht : ∀ (s : Shared) (H : Hp) (C : Addr) (cl : List (Str × Addr)) (fp : List Addr), PTs ({ X.blk s H scope (compEnvC scope cl C X.env) fp with pn := [p] }) ifs tt)
    (he : ∀ (s : Shared) (H : Hp) (C : Addr) (cl : List (Str × Addr)) (fp : List Addr), PE ({ X.blk s H scope (compEnvC scope cl C X.env) fp with pn := [p] }) elt te) (hs : ∀ x, foldedSetIterable iter X.env x = pure x)
    (h : tLc wi g tt te (own.map (·.2)) σ H Q)
    (hRR : ∀ D C s' m H', Inv X pins σ H' s' → Q (.ref D) H' → s'.heap.Ns C m → FpOk X pins H' C → compPost (model X.prog X.w) X.A X.xe use Qf (.ref D) C (.ok .next) s') :
    wpAny (model X.prog X.w) X.A (comprehension (.ListComp elt [⟨tg, iter, ifs, 0⟩] scope pos) scope X.env pos' (newList []) false (eval iter X.env) use) Qf X.xe s := by
  have hfree : ∀ y ∈ scope.names, y.2 = .free → ∃ c, X.env.cells.lookup y.1 = some c := fun y hy e => by
    rcases ok.free y hy e with k | k
    · exact I.ok.has _ (.inl k)
    · exact I.ok.has _ (.inr k)
  refine wpAny_comprehension_free (use := use) rfl hs (closure_ok hfree) ok.kind (fun y hy e => by rw [ok.uniq y hy, e])
    (thn (hi.run pins s σ H _ I h) fun xv s1 hx => thn hx fun itv s2 h2 => ?_)
  obtain ⟨it, fp, tn, J, H2, e, I2, T, st2, f2, q⟩ := h2
  subst e
  refine wpAny_newObj_type (newEnv_comp ?_) (by show 0 ≤ sizeLine; decide)
  generalize hD : s2.heap.objs.size = D
  have hDn : H2 D = none := I2.hok.fresh (Nat.le_of_eq hD)
  obtain ⟨W, ⟨m0, w0⟩, turn⟩ := q D hDn
  -- the new list
  generalize hs3 : ({ s2 with heap := s2.heap.push { cls := .type "list", data := .seq ([] : List Value).toArray } } : Shared) = s3
  have I3 : Inv X pins σ (upd H2 D (.lst [])) s3 := by
    rw [← hs3]
    refine I2.laid (t' := s2.toks) (fun b o e => Heap.get?_push_of_some _ e) (Nat.le_of_eq hD) ⟨Nat.zero_le _, [], 0, .nil, ?_⟩
    rw [← hD]
    exact Heap.get?_push_size _ rfl
  have h3 : s3.heap = s2.heap.push { cls := .type "list", data := .seq ([] : List Value).toArray } := by rw [← hs3]
  have sz : ∀ b ∈ fp, b < s2.heap.objs.size := fun b hb => by
    obtain ⟨o, e, _⟩ := T.obj _ _ st2 b hb
    exact Heap.lt_size e
  have f3 : ∀ b ∈ fp, FpOk X pins (upd H2 D (.lst [])) b ∧ b < s3.heap.objs.size := fun b hb => by
    have hlt := sz b hb
    refine ⟨⟨?_, (f2 b hb).2⟩, by rw [h3, Heap.size_push]; exact Nat.lt_succ_of_lt hlt⟩
    rw [upd_ne (by rw [← hD]; exact Nat.ne_of_lt hlt)]
    exact (f2 b hb).1
  have st3 : tn 0 s3.heap := T.keep _ _ _ st2 fun b _ o e => by rw [h3]; exact Heap.get?_push_of_some _ e
  have I4 := block_pin (p := p) I3 (List.mem_append_left _ hp) (Nat.le_refl _) hst hfe (block_start I3 ok hN f3) (I3.pin p (List.mem_append_left _ hp)).2.1 (pushCells_keeps _ _ _ _ (Heap.get?_push_of_some _ (I3.pin p (List.mem_append_left _ hp)).1))
  have pg := hg s3 (upd H2 D (.lst [])) s3.heap.objs.size (cellsFrom (s3.heap.objs.size + 1) scope.names (cloFrom X.env.cells scope.names [])) fp
  have pt := ht s3 (upd H2 D (.lst [])) s3.heap.objs.size (cellsFrom (s3.heap.objs.size + 1) scope.names (cloFrom X.env.cells scope.names [])) fp
  have pe := he s3 (upd H2 D (.lst [])) s3.heap.objs.size (cellsFrom (s3.heap.objs.size + 1) scope.names (cloFrom X.env.cells scope.names [])) fp
  show codeAny _ _ (.compStart (.ListComp elt [⟨tg, iter, ifs, 0⟩] scope pos) 0 (.ref it) (.ref D) (compEnvC scope (cellsFrom (s3.heap.objs.size + 1) scope.names (cloFrom X.env.cells scope.names [])) s3.heap.objs.size X.env)) (compPost (model X.prog X.w) X.A X.xe use Qf (.ref D) s3.heap.objs.size) { s3 with heap := pushCells (s3.heap.push { cls := .type "dict", data := .dict #[] }) scope.names }
  have nfp : ∀ b ∈ fp, (upd H2 D (.lst [])) b = none := fun b hb => (f3 b hb).1.1
  generalize hce : compEnvC scope (cellsFrom (s3.heap.objs.size + 1) scope.names (cloFrom X.env.cells scope.names [])) s3.heap.objs.size X.env = ce at I4 pg pt pe ⊢
  have cL : ce.locals = s3.heap.objs.size := by subst hce; rfl
  generalize hH3 : upd H2 D (.lst []) = H3 at I3 I4 pg pt pe w0 nfp f3
  generalize hs4 : ({ s3 with heap := pushCells (s3.heap.push { cls := .type "dict", data := .dict #[] }) scope.names } : Shared) = s4 at I4 ⊢
  have st4 : tn 0 s4.heap := T.keep _ _ _ st3 fun b _ o e => by rw [← hs4]; exact pushCells_keeps _ _ _ _ (Heap.get?_push_of_some _ e)
  have stat : ∀ {σ' : St} {H' : Hp} {s' : Shared}, Inv (BH X s3 H3 scope ce fp p) [] σ' H' s' → (∀ b ∈ fp, H' b = none) → ∀ b ∈ fp, FpOk (BH X s3 H3 scope ce fp p) [] H' b := fun {σ' H' s'} I' hn b hb =>
    ⟨hn b hb, (I'.ok.exf b hb).1, I'.ok.exfs b hb, .inl hb, fun x c e => (I'.ok.exf b hb).2 x c e, fun q hq => by
      have e : q = p := by simpa using (show q ∈ [p] ++ ([] : List (Addr × Obj)) from hq)
      subst e
      exact (f3 b hb).1.2.2.2.2.2 q (List.mem_append_left _ hp)⟩
  have loop : codeAny (model X.prog X.w) X.A (.compLoop (.ListComp elt [⟨tg, iter, ifs, 0⟩] scope pos) 0 (.ref it) (.ref D) ce) (compPost (model X.prog X.w) X.A X.xe use Qf (.ref D) s3.heap.objs.size) s4 := by
    refine compLoop_any (fun n s' => ∃ i H', Inv (BH X s3 H3 scope ce fp p) [] (wipe σ (own.map (·.2))) H' s' ∧ tn i s'.heap ∧ (∀ b ∈ fp, H' b = none) ∧ W i n H') ?_ m0 ⟨0, H3, I4, st4, nfp, w0⟩
    rintro n s5 ⟨i, H5, I5, st5, n5, w5⟩
    rcases turn i n H5 w5 with ⟨stop, qq⟩ | ⟨go, Nx, hNx, step⟩
    · have td := T.done (BH X s3 H3 scope ce fp p) rfl rfl rfl (⟨p, h1, List.mem_cons_self⟩ : HotC (BH X s3 H3 scope ce fp p)) i [] s5 _ H5 (fun _ _ => False) I5 (stat I5 n5) st5 stop
      refine thnF td fun r s6 ⟨hr, I6⟩ => ?_
      subst hr
      -- back in the def's context
      have I7 : Inv X pins σ H5 s6 := I3.call' (ch := fp) I6.os I6.base I6.hok I6.bare fun b hb => ⟨(f3 b hb).1.2.2.2.1, (f3 b hb).1.2.1, (f3 b hb).1.2.2.2.2.1, (f3 b hb).1.2.2.2.2.2⟩
      have nC : H5 s3.heap.objs.size = none := by
        have z : H5 ce.locals = none := I6.free
        rw [cL] at z
        exact z
      obtain ⟨m, hn, _⟩ := I6.loc
      have hn : s6.heap.Ns ce.locals m := hn
      rw [cL] at hn
      exact hRR D s3.heap.objs.size s6 m H5 I7 qq hn (I3.fpOk (Nat.le_refl _) nC)
    · have ti := T.item (BH X s3 H3 scope ce fp p) rfl rfl rfl (⟨p, h1, List.mem_cons_self⟩ : HotC (BH X s3 H3 scope ce fp p)) i [] s5 _ H5 (fun _ _ => False) I5 (stat I5 n5) st5 go
      refine thnF ti fun r s6 ⟨u, hr, h6⟩ => ?_
      subst hr
      refine thnF h6 fun _ s7 ⟨x, H7, I7, r7, y7, st7, n7⟩ => ?_
      have I7' := I7.pinned (stat I7 n7) (T.obj _ _ st7)
      refine thnF (pg.run _ s7 _ H7 x u _ I7' r7 (step x H7 y7)) fun _ s8 ⟨σ8, H8, I8, hw8, q8⟩ => ?_
      refine thnF (pt.run _ s8 σ8 H8 _ I8 q8) fun b s9 ⟨H9, I9, q9⟩ => ?_
      -- the turn's end
      have fin : ∀ {s' : Shared} {H' : Hp}, Inv (BH X s3 H3 scope ce fp p) ([] ++ pinsAt fp s7.heap) σ8 H' s' → Nx H' → ∃ m, m < n ∧ ∃ i H', Inv (BH X s3 H3 scope ce fp p) [] (wipe σ (own.map (·.2))) H' s' ∧ tn i s'.heap ∧ (∀ b ∈ fp, H' b = none) ∧ W i m H' := fun {s' H'} I' nx => by
        obtain ⟨m', hm, w'⟩ := hNx H' nx
        have pin' : ∀ b ∈ fp, ∀ o, s7.heap.get? b = some o → s'.heap.get? b = some o ∧ H' b = none := fun b hb o e =>
          let z := I'.pin (b, o) (List.mem_append_right _ (List.mem_append_right _ (mem_pinsAt hb e)))
          ⟨z.1, z.2.1⟩
        have hl : (wipe σ (own.map (·.2))).length = σ8.length := by rw [← hw8, wipe_length]
        refine ⟨m', hm, i + 1, H', (I'.unpinned (pins := [])).weak hl (fun j v e => ?_), T.keep _ _ _ st7 fun b hb o e => (pin' b hb o e).1, fun b hb => ?_, w'⟩
        · rw [← hw8] at e
          exact (wipe_some e).1
        · obtain ⟨o, e, _⟩ := T.obj _ _ st7 b hb
          exact (pin' b hb o e).2
      cases b with
      | false =>
        simp only [Bool.false_eq_true, if_false] at q9 ⊢
        exact fin I9 q9
      | true =>
        simp only [if_true] at q9 ⊢
        refine thnF (pe.run _ s9 σ8 H9 _ I9 q9) fun z s10 ⟨yv, H10, I10, r10, acc, hD10, hz10, nx⟩ => ?_
        exact app_ok (X := BH X s3 H3 scope ce fp p) I10 hD10 hz10 r10 fun s11 I11 => fin I11 nx
  exact codeAny_compStart_list loop (T.self X.A 0 _ _ _ st4 loop)
theorem pe_lcH {elt tg iter : Expr} {ifs : List Expr} {scope : Scope} {own : List (Str × Nat)} {pos : Pos} {wi : TI} {g : TG} {tt : TT} {te : TE} {p : Addr × Obj} (hst : X.stack = X.env :: X.outer) (hfe : X.env.frame = some X.env.locals) (h1 : Hot1 X.A p) (hp : p ∈ X.pn) (hN : X.N.Nodup) (hi : PIH X tg iter wi) (ok : BlkOk X.N X.env.scope scope own)
    (hg : ∀ (s : Shared) (H : Hp) (C : Addr) (cl : List (Str × Addr)) (fp : List Addr), PG ({ X.blk s H scope (compEnvC scope cl C X.env) fp with pn := [p] }) tg g) (ht : ∀ (s : Shared) (H : Hp) (C : Addr) (cl : List (Str × Addr)) (fp : List Addr), PTs ({ X.blk s H scope (compEnvC scope cl C X.env) fp with pn := [p] }) ifs tt)
    (he : ∀ (s : Shared) (H : Hp) (C : Addr) (cl : List (Str × Addr)) (fp : List Addr), PE ({ X.blk s H scope (compEnvC scope cl C X.env) fp with pn := [p] }) elt te) (hs : ∀ x, foldedSetIterable iter X.env x = pure x := by intro _; rfl) :
    PE X (.ListComp elt [⟨tg, iter, ifs, 0⟩] scope pos) (tLc wi g tt te (own.map (·.2))) := by
  refine ⟨fun pins s σ H Q I h => ?_⟩
  rw [eval_ListComp]
  refine lc_coreH hst hfe h1 hp hN I hi ok hg ht he hs h fun D C s' m H' I' q hn f => ⟨m, hn, fun h'' sb => ?_⟩
  obtain ⟨f0, f1, f2, f3, f4, f5⟩ := f
  exact ⟨.ref D, H', I'.turned (t' := s'.toks) (fun b o hb e => (sb.2 b hb).trans e) f0 f1 f3 f4 f5, rfl, q⟩
end
end L2H
namespace L2
open PySem PySem.Spec PyProof.Rows
/-- isinstance(e, c), e the exception that the suite holds, of the class D, with or without fields -/
def rIsEX (K : PySem.W.Frag) (a : Addr) (cls : Value) (d : Option Addr) : List V → Hp → VK → Prop := fun xs H Q => ∃ (D : Addr) (c : V) (cv : Value) (b : Bool), cls = .ref D ∧ ExcC K D ∧ xs = [.ref a, c] ∧ (∀ u, RelV c u → u = cv) ∧
  (d = none ∨ ∃ dd fs, d = some dd ∧ H dd = some (.xd fs)) ∧ PySem.W.kitOne K (.ref D) cv = some b ∧ Q (.bl b) H
theorem call_isEX {X : Cx} {a : Addr} {oe : Obj} {cls : Value} {d : Option Addr} {pn : List (Addr × Obj)} (hz : Zc cls d oe) (hf : ∃ vs, oe.data = .fields vs) : CallR (X.suite a ((a, oe) :: pn)) (.builtin "isinstance") (rIsEX X.K a cls d) := by
  intro pins s σ H xs us Q I r h
  obtain ⟨D, c, cv, b, rfl, C, rfl, hcv, hd, e, q⟩ := h
  cases r with
  | cons rx rr =>
    cases rr with
    | cons rt rr =>
      cases rr
      cases rx
      have ec := hcv _ rt
      subst ec
      obtain ⟨hget, _⟩ := I.pin (a, oe) (List.mem_append.mpr (.inl List.mem_cons_self))
      obtain ⟨vs, hv⟩ := hf
      obtain ⟨odx, J⟩ : ∃ odx, PySem.W.InstAt s.heap a oe D odx := by
        rcases hd with rfl | ⟨dd, fs, rfl, ea⟩
        · refine ⟨none, hget, hz.1, by unfold PySem.W.notCls; rw [hv] <;> rfl, ?_⟩
          rw [hz.2] <;> trivial
        · have hx : ObjOk X.prog X.w H s.heap dd (.xd fs) := I.hok dd _ ea
          obtain ⟨mA, hns, hr⟩ := hx
          obtain ⟨od, ho, hl⟩ := lookIn_ns hns
          exact ⟨some od, hget, hz.1, by unfold PySem.W.notCls; rw [hv] <;> rfl, by rw [hz.2]; exact ho⟩
      obtain ⟨cd, hc, _⟩ := PySem.W.any_some C.hd
      exact PySem.W.kia_one (PySem.W.kitx_exc (by rw [hc] <;> rfl) C.hg C.hk C.hs C.ha C.hn C.ht C.hm) I.kIn J e (fun z => nomatch z) fun tk => ⟨.bl b, H, I.kept (t' := tk) fun _ _ z => z, rfl, q⟩
/-! a class called, what may be let out told at the slots -/
section
variable {X : Cx} {CX : CXT} {k : Nat} {f C : Addr} {fd : FuncData} {ps : List Str} {sp : Sp} {E : St → XK} {x : Str} {p pos : Pos} {e : Expr} {es : List Expr} {t : TA} {dvs : List V} {ds : List Value}
theorem passes_at {σ : St} {E : XK} (h : PassesAt CX X σ E) {pins : List (Addr × Obj)} {H : Hp} {s : Shared} {u : Value} {s' : Shared} (I : Inv X pins σ H s) (c : CX X.stack H s E u s') : X.xe u s' := h pins H s u s' I c
theorem run_makeS {pins : List (Addr × Obj)} {σ : St} {H : Hp} {s : Shared} {Q : VK} {us : List Value} {vs : List V} {E : XK} (M : Mk X.K C f) (F : FnOk X.prog X.w X.K X.mg X.base CX k f fd ps sp) (hr : Room (k + 1) X.A) (hb : Binds X.K fd ps ds) (hd : Vals dvs ds)
    (hx : PassesAt CX X σ E) (I : Inv X pins σ H s) (r : Vals vs us)
    (h : ∀ x dx, H x = none → H dx = none → dx ≠ x → sp (.ref x :: (vs ++ dvs)) (upd (upd H dx (.own x)) x (.ins C dx [])) (fun v H2 => v = .non ∧ Q (.ref x) H2) E) :
    wpAny (model X.prog X.w) X.A (call (.ref C) us) (EP X pins σ Q) X.xe s := by
  have hq := h (s.heap.objs.size + 1) s.heap.objs.size (I.hok.fresh (Nat.le_succ _)) (I.hok.fresh (Nat.le_refl _)) (Nat.ne_of_lt (Nat.lt_succ_self _))
  have I2 := Inv.made (C := C) I
  have r2 : Vals (V.ref (s.heap.objs.size + 1) :: (vs ++ dvs)) (Value.ref (s.heap.objs.size + 1) :: (us ++ ds)) := .cons rfl (r.append hd)
  have hl : (Value.ref (s.heap.objs.size + 1) :: us ++ ds).length = ps.length := by
    have e := r2.length
    rw [F.len _ _ _ _ hq] at e
    exact e.symm
  refine wpAny_call (make_map (f := f) I.kIn M.makes M.init (beq_iff_eq.mp M.fn) (codeAny_mono (F.run _ X.stack _ _ ⟨Value.ref (s.heap.objs.size + 1) :: us, []⟩ (Value.ref (s.heap.objs.size + 1) :: (us ++ ds)) _ _ E (hr.make C us [])
    (I2.env0.make C us []) (hb _ (Value.ref (s.heap.objs.size + 1) :: us) I2.kIn hl) r2 hq) fun r s' hq' => ?_))
  cases r with
  | error e => exact hx pins _ _ e s' I2 hq'
  | ok fl =>
    cases fl with
    | ret u =>
      obtain ⟨v, H', I3, rv, ev, q3⟩ := I2.after hq'
      subst ev
      exact ⟨rv, ⟨V.ref (s.heap.objs.size + 1), H', I3, rfl, q3⟩⟩
    | next => exact False.elim hq'
    | brk => exact False.elim hq'
    | cont => exact False.elim hq'
def tMakeS (C : Addr) (sp : Sp) (dvs : List V) (E : St → XK) (t : TA) : TE := fun σ H Q => t σ H fun vs H1 => ∀ x dx, H1 x = none → H1 dx = none → dx ≠ x → sp (.ref x :: (vs ++ dvs)) (upd (upd H1 dx (.own x)) x (.ins C dx [])) (fun v H2 => v = .non ∧ Q (.ref x) H2) (E σ)
theorem pe_makeS (M : Mk X.K C f) (F : FnOk X.prog X.w X.K X.mg X.base CX k f fd ps sp) (hr : Room (k + 1) X.A) (hg : Gl X x) (hm : X.mg x = some (.ref C)) (hb : Binds X.K fd ps ds) (hd : Vals dvs ds) (hx : ∀ σ, PassesAt CX X σ (E σ))
    (ha : PA X (e :: es) t) (hdb : (x == ("__debug__" : Str)) = false := by decide) (he : starEach (e :: es) X.env = (false, eval e X.env) :: starEach es X.env := by rfl) (hpl : (backTo pos (starEach es X.env)).any (·.1) = false := by rfl) :
    PE X (.Call (.Name x p) (e :: es) [] pos) (tMakeS C sp dvs E t) := by
  refine ⟨fun pins s σ H Q I h => ?_⟩
  refine wpAny_Call_Name_kw (ld_glob I hg hm ?_ hdb)
  refine PySem.W.callWith_K (h₀ := X.base) I.ok.mod.kin M.kp (thn (ha.run pos pins s σ H _ I h) fun us s1 ⟨vs, H1, I1, r, q⟩ => ⟨I1.kIn, ?_⟩) he hpl
  exact run_makeS M F hr hb hd (hx σ) I1 r q
end
end L2
set_option Elab.async false
set_option linter.all false
set_option maxRecDepth 100000
set_option maxHeartbeats 4000000
namespace HS
open PySem PySem.Spec PyProof.Rows L2 He
def excCB (K : PySem.W.Frag) (D : Addr) : Bool :=
  eqO (PySem.W.findIn K (.ref D) "__getattribute__") (some (some (.builtin "BaseException.__getattribute__"))) && (eqO (PySem.W.findIn K (.ref D) "__getattr__") (some none) && (decide (PySem.W.subIn K (.ref D) (.type "BaseException") = some true) &&
  (PySem.W.hasDictIn K D && (eqO (PySem.W.findIn K (.ref D) "__class__") (some (some (.builtin "object.__class__"))) && (eqO (PySem.W.specialIn K (.builtin "object.__class__") "__get__") (some (some (.builtin "getset_descriptor.__get__"))) &&
  (decide (PySem.W.takesIn K (.builtin "object.__class__") = some true) && decide (PySem.W.mroIn K D (.type "object") = some true)))))))
theorem excCB_ok {K : PySem.W.Frag} {D : Addr} (h : excCB K D = true) : ExcC K D := by
  unfold excCB at h
  simp only [Bool.and_eq_true] at h
  obtain ⟨h1, h2, h3, h4, h5, h6, h7, h8⟩ := h
  exact ⟨eqO_ok h1, eqO_ok h2, of_decide_eq_true h3, h4, eqO_ok h5, eqO_ok h6, of_decide_eq_true h7, of_decide_eq_true h8⟩
/-- isinstance among own errors: each is just the one, and a ValueError -/
def kindB (K : PySem.W.Frag) (cs : List Str) : Bool :=
  (cs.all fun x => excCB K (ga K x) && decide (PySem.W.kitOne K (.ref (ga K x)) (.type "ValueError") = some true)) &&
    (List.range cs.length).all fun i => (List.range cs.length).all fun j => decide (PySem.W.kitOne K (.ref (ga K (cs.getD i ""))) (.ref (ga K (cs.getD j ""))) = some (decide (i = j)))
theorem kindB_ok {K : PySem.W.Frag} {cs : List Str} (h : kindB K cs = true) : (∀ i, i < cs.length → ExcC K (ga K (cs.getD i "")) ∧ PySem.W.kitOne K (.ref (ga K (cs.getD i ""))) (.type "ValueError") = some true) ∧
    ∀ i j, i < cs.length → j < cs.length → PySem.W.kitOne K (.ref (ga K (cs.getD i ""))) (.ref (ga K (cs.getD j ""))) = some (decide (i = j)) := by
  unfold kindB at h
  simp only [Bool.and_eq_true, List.all_eq_true, List.mem_range] at h
  obtain ⟨h1, h2⟩ := h
  refine ⟨fun i hi => ?_, fun i j hi hj => of_decide_eq_true (h2 i hi j hj)⟩
  have e : cs.getD i "" ∈ cs := by
    rw [List.getD_eq_getElem?_getD, List.getElem?_eq_getElem hi]
    exact List.getElem_mem hi
  obtain ⟨a, b⟩ := h1 _ e
  exact ⟨excCB_ok a, of_decide_eq_true b⟩
end HS
set_option Elab.async false
set_option linter.all false
set_option maxRecDepth 100000
set_option maxHeartbeats 0
namespace K99
open PySem PySem.Spec PyProof.Rows L2
abbrev R : PySem.W.OpenRow := PySem.W.OpenLaw.row PySem.Challenge.rw_characterroads_k99_errors_of_the_program
abbrev topS (i : Nat) : Stmt := PySem.Challenge.pw_characterroads_k99_errors_of_the_program.main.body.getD i (.Pass ⟨0, 0, 0, 0⟩)
abbrev methS (i j : Nat) : Stmt := HS.clsM (topS i) j
def d_is_integer : He.DefD := ⟨("is_integer", none), "is_integer", "is_integer", defArgs (topS 8), defBody (topS 8), defScope (topS 8), [], []⟩
def d_Cyclo___init__ : He.DefD := ⟨("Cyclo", some "__init__"), "__init__", "Cyclo.__init__", defArgs (methS 23 0), defBody (methS 23 0), defScope (methS 23 0), [.int 1], []⟩
def d__law_state : He.DefD := ⟨("_law_state", none), "_law_state", "_law_state", defArgs (topS 25), defBody (topS 25), defScope (topS 25), [], []⟩
def d__law_take : He.DefD := ⟨("_law_take", none), "_law_take", "_law_take", defArgs (topS 26), defBody (topS 26), defScope (topS 26), [], []⟩
def d__law_met : He.DefD := ⟨("_law_met", none), "_law_met", "_law_met", defArgs (topS 27), defBody (topS 27), defScope (topS 27), [], []⟩
def d_law : He.DefD := ⟨("law", none), "law", "law", defArgs (topS 28), defBody (topS 28), defScope (topS 28), [], []⟩
def fn0 : List He.DefD := [d_is_integer, d_Cyclo___init__, d__law_state, d__law_take, d__law_met, d_law]
def fn : List He.DefD := fn0
def fa0 : List He.Fa := [.glo "law", .glo "_law_state", .glo "_law_take", .glo "_law_met", .glo "Cyclo", .glo "Refused", .glo "NoText", .glo "Malformed", .glo "ZeroDivisor", .glo "Fault", .glo "is_integer", .free "bool", .free "any", .free "len", .free "int", .free "abs", .free "range", .free "isinstance", .free "ValueError", .free "super"]
def fa1 : List He.Fa := [.int "MOST" 5000, .mkr "Cyclo", .exc "Malformed", .exc "ZeroDivisor", .noat "Refused" "reason", .noat "NoText" "at", .exm "Refused" "Fault" true, .exm "NoText" "Fault" true, .exm "Malformed" "Fault" true, .exm "ZeroDivisor" "Fault" true]
def fa : List He.Fa := fa0 ++ fa1
def sup : List HS.SupD := [⟨"Refused", "reason", "Refused.__init__", ⟨⟨13, 17, 13, 21⟩, ⟨13, 23, 13, 29⟩, ⟨14, 8, 14, 13⟩, ⟨14, 8, 14, 15⟩, ⟨14, 8, 14, 24⟩, ⟨14, 25, 14, 31⟩, ⟨14, 8, 14, 32⟩, ⟨14, 8, 14, 32⟩, ⟨15, 8, 15, 12⟩, ⟨15, 8, 15, 19⟩, ⟨15, 22, 15, 28⟩, ⟨15, 8, 15, 28⟩⟩⟩,
  ⟨"NoText", "at", "NoText.__init__", ⟨⟨18, 17, 18, 21⟩, ⟨18, 23, 18, 25⟩, ⟨19, 8, 19, 13⟩, ⟨19, 8, 19, 15⟩, ⟨19, 8, 19, 24⟩, ⟨19, 25, 19, 27⟩, ⟨19, 8, 19, 28⟩, ⟨19, 8, 19, 28⟩, ⟨20, 8, 20, 12⟩, ⟨20, 8, 20, 15⟩, ⟨20, 18, 20, 20⟩, ⟨20, 8, 20, 20⟩⟩⟩]
def kinds : List Str := ["Refused", "NoText", "Malformed", "ZeroDivisor"]
def more (K : PySem.W.Frag) : Bool := HS.kindB K kinds && (xfB K (He.ga K "Refused") && xfB K (He.ga K "NoText"))
def ask : HS.Ask := { steps := 20000, fa := fa, fn := fn, sup := sup, more := more }
abbrev hk : PySem.W.Hook := HS.hook R.prog ask
def ob (s : PySem.W.SharedT) : HS.AlS := HS.obsG R.prog ask (HandSHeadRun.getT s)
theorem ob_eq (s : PySem.W.SharedT) : ob s = hk.obs s.abs := HS.obsG_eq (HandSHeadRun.getT_eq s)
def names0 : List PySem.Str := ["_wall", "Fault", "ZeroDivisor", "Malformed", "Refused", "NoText", "is_integer", "common", "multiple", "prime_powers", "inverse_modulo", "MOST", "spread", "divided", "cyclotomic", "folded", "lowered", "least_form", "head_text", "low_text"]
def names1 : List PySem.Str := ["Cyclo", "_law_state", "_law_take", "_law_met"]
def names : List PySem.Str := names0 ++ names1
theorem run (w : World) : HandSHeadRun.RunEq R (PySem.W.view R.prog [28]) hk ob 20000 names w := by
  intro os
  kernel_rfl
end K99
set_option Elab.async false
set_option linter.all false
set_option maxRecDepth 100000
set_option maxHeartbeats 4000000
namespace K99
open PySem PySem.Spec PyProof.Rows L2
abbrev FnP (K : PySem.W.Frag) (x : Str) (st : Stmt) (f : Addr) (fd : FuncData) : Prop := FunD K x x (defArgs st) (defBody st) (defScope st) [] [] f fd
abbrev sState : Stmt := topS 25
theorem cut_ints (ns : List Int) (lo hi : Option Int) : ∃ ms : List Int, cutV (ns.map V.int) lo hi = ms.map V.int := by
  unfold cutV
  rw [← List.map_drop, ← List.map_take]
  exact ⟨_, rfl⟩
def spState (K : PySem.W.Frag) : Sp := fun vs H Q _ => ∃ (a : Addr) (ns : List Int), vs = [.ref a] ∧ SqL K H a (ns.map V.int) ∧
  ∀ (s t : Int) H' p, 0 ≤ s → 0 ≤ t → Same H H' → H p = none → H' p = some (.lst [.int s, .int t]) → Q (.ref p) H'
section
variable {P : Program} {w : World} {K : PySem.W.Frag} {mg : Str → Option Value} {base : Heap}
theorem scState : FnScope ["script", "seed", "total", "cell"] ["script"] (defScope sState) := ⟨rfl, rfl, rfl, by decide +kernel, rfl, by decide +kernel, by decide +kernel⟩
theorem ok_state {f : Addr} {fd : FuncData} (F : FnP K "_law_state" sState f fd) (gI : mg "int" = none) (gA : mg "abs" = none) : FnOk P w K mg base CX0 1 f fd ["script"] (spState K) := by
  refine F.ok scState (fun vs H Q E h => ?_) (fun cdv A outer s H vs Q E hr h => ?_)
  · obtain ⟨a, ns, rfl, _⟩ := h
    rfl
  obtain ⟨a, ns, rfl, hs, hQ⟩ := h
  refine ⟨_, PSs.nox (pss_cons (ps_set (i := 1) scState.nd rfl (.inl rfl) pe_int) (pss_cons (ps_set (i := 2) scState.nd rfl (.inl rfl) pe_int)
    (pss_cons (ps_for PassesOwn.never rfl (pi_list (pe_slice sl_list (pv 0) po_none (po_some pe_int))) (pg_name (i := 3) scState.nd rfl (.inl rfl))
      (pss_cons (ps_set (i := 1) scState.nd rfl (.inl rfl) (pe_op op_add (pe_op op_mul (pv 1) pe_int) (pe_callB call_abs rfl gA (by decide +kernel) (pa_cons (pv 3) pa_nil))))
        (pss_one (ps_set (i := 2) scState.nd rfl (.inl rfl) (pe_op op_mod (pe_callTy call_int1 rfl gI (by decide +kernel) (pa_cons (pe_op op_add (pe_op op_mul (pv 2) pe_int) (pv 3)) pa_nil)) pe_int)))))
      (pss_one (ps_ret (pe_lst (pa_cons (pv 1) (pa_cons (pv 2) pa_nil)))))))), ?_⟩
  refine ⟨_, rfl, _, rfl, a, _, rfl, hs, fun p hp => ?_⟩
  obtain ⟨ms, hm⟩ := cut_ints ns none (some 63)
  rw [hm]
  refine ⟨p, rfl, ⟨_, SqL.of upd_same⟩, for_list (K := K) (a := p) (xs := ms.map V.int) (fun _ σ H' => ∃ (x y : Int) (v : Option V), σ = [some (.ref a), some (.int x), some (.int y), v] ∧ 0 ≤ x ∧ 0 ≤ y ∧ H' = upd H p (.lst (ms.map V.int)))
    ⟨0, 1, none, rfl, by decide, by decide, rfl⟩ (fun _ _ _ _ ⟨_, _, _, _, _, _, e⟩ => by rw [e]; exact SqL.of upd_same) ?_ ?_⟩
  · rintro i c σ H' hi ⟨x, y, v, rfl, hx, hy, rfl⟩
    obtain ⟨z, hz, rfl⟩ : ∃ z, ms[i]? = some z ∧ c = V.int z := by
      rw [List.getElem?_map] at hi
      cases e : ms[i]? with
      | none => rw [e] at hi; cases hi
      | some z => rw [e] at hi; exact ⟨z, rfl, (Option.some.inj hi).symm⟩
    refine ⟨_, rfl, _, _, rfl, rfl, .inr (by decide), _, rfl, z, rfl, _, _, rfl, rfl, ?_⟩
    refine ⟨_, rfl, _, _, rfl, rfl, .inr (by decide), _, rfl, _, _, rfl, rfl, .inl ⟨_, rfl, _, _, rfl, rfl, (by show (0 : Int) < 2147483647; decide), ?_⟩⟩
    refine ⟨x * 1000003 + (if z < 0 then -z else z), (y * 48271 + z) % 2147483647, _, rfl, ?_, Int.emod_nonneg _ (by decide), rfl⟩
    have : 0 ≤ (if z < 0 then -z else z) := by split <;> omega
    have := Int.mul_nonneg hx (by decide : (0 : Int) ≤ 1000003)
    omega
  · rintro σ H' ⟨x, y, v, rfl, hx, hy, rfl⟩
    refine ⟨_, rfl, _, rfl, (by show 2 ≤ sizeLine; decide), fun q hq => ?_⟩
    have hp' : H q = none := by
      cases e : H q with
      | none => rfl
      | some o =>
        have ne : q ≠ p := fun z => by rw [z, hp] at e; cases e
        rw [upd_ne ne, e] at hq
        cases hq
    refine hQ x y _ q hx hy (fun b o e => ?_) hp' upd_same
    rw [upd_ne (ne_of_none e hp'), upd_ne (ne_of_none e hp)]
    exact e
abbrev sTake : Stmt := topS 26
def spTake : Sp := fun vs H Q _ => ∃ (a : Addr) (s t m : Int), vs = [.ref a, .int m] ∧ H a = some (.lst [.int s, .int t]) ∧ 0 ≤ s ∧ 0 ≤ t ∧ 0 < m ∧ m < 1073741824 ∧
  ∀ v s' t' : Int, 0 ≤ v → v < m → 0 ≤ s' → 0 ≤ t' → Q (.int v) (upd H a (.lst [.int s', .int t']))
theorem scTake : FnScope ["state", "m", "value"] ["state", "m"] (defScope sTake) := ⟨rfl, rfl, rfl, by decide +kernel, rfl, by decide +kernel, by decide +kernel⟩
theorem at0 {x y : V} : atI [x, y] 0 = some x := rfl
theorem at1 {x y : V} : atI [x, y] 1 = some y := rfl
theorem ok_take {f : Addr} {fd : FuncData} (F : FnP K "_law_take" sTake f fd) (gI : mg "int" = none) : FnOk P w K mg base CX0 1 f fd ["state", "m"] spTake := by
  refine F.ok scTake (fun vs H Q E h => ?_) (fun cdv A outer s H vs Q E hr h => ?_)
  · obtain ⟨a, s, t, m, rfl, _⟩ := h
    rfl
  obtain ⟨a, x, y, m, rfl, ha, hx, hy, hm, hm2, hQ⟩ := h
  refine ⟨_, PSs.nox (pss_cons (ps_if (pt_cmpR op_gt (pe_ix ix_list (pv 0) pe_int (fun _ _ => rfl)) pe_int (nomark _))
      (pss_cons (ps_set (i := 2) scTake.nd rfl (.inl rfl) (pe_op op_mod (pe_callTy call_int1 rfl gI (by decide +kernel) (pa_cons (pe_ix ix_list (pv 0) pe_int (fun _ _ => rfl)) pa_nil)) (pv 1)))
      (pss_cons (ps_asg (pe_op op_fdivN (pe_ix ix_list (pv 0) pe_int (fun _ _ => rfl)) (pv 1)) (pg_sub (pv 0) pe_int set_list)) (pss_one (ps_ret (pv 2))))) pss_nil)
    (pss_cons (ps_asg (pe_op op_mod (pe_callTy call_int1 rfl gI (by decide +kernel) (pa_cons (pe_op op_add (pe_op op_mul (pe_ix ix_list (pv 0) pe_int (fun _ _ => rfl)) pe_int) pe_int) pa_nil)) pe_int) (pg_sub (pv 0) pe_int set_list))
      (pss_one (ps_ret (pe_op op_mod (pe_callTy call_int1 rfl gI (by decide +kernel) (pa_cons (pe_op op_fdivN (pe_ix ix_list (pv 0) pe_int (fun _ _ => rfl)) pe_int) pa_nil)) (pv 1)))))), ?_⟩
  have hS : SqL K H a [.int x, .int y] := SqL.of ha
  refine ⟨_, rfl, a, _, 0, _, rfl, rfl, hS, at0, _, _, rfl, rfl, _, rfl, ite2 (fun c => ?_) (fun c => ?_)⟩
  · have c' := of_decide_eq_true c
    refine ⟨_, rfl, a, _, 0, _, rfl, rfl, hS, at0, .inl ⟨_, rfl, _, rfl, _, _, rfl, rfl, hm, ?_⟩⟩
    refine ⟨_, rfl, a, _, 0, _, rfl, rfl, hS, at0, _, rfl, _, _, rfl, rfl, ⟨by omega, by omega⟩, ?_⟩
    refine ⟨_, rfl, a, _, 0, 0, rfl, rfl, ha, rfl, _, rfl, ?_⟩
    refine hQ _ _ _ (Int.emod_nonneg _ (by omega)) (Int.emod_lt_of_pos _ hm) ?_ hy
    rw [Int.fdiv_eq_ediv_of_nonneg _ (by omega)]
    exact Int.ediv_nonneg hx (by omega)
  · refine ⟨_, rfl, a, _, 1, _, rfl, rfl, hS, at1, _, _, rfl, rfl, .inr (by decide), _, _, rfl, rfl, .inl ⟨_, rfl, _, _, rfl, rfl, (by show (0 : Int) < 2147483647; decide), ?_⟩⟩
    refine ⟨_, rfl, a, _, 1, 1, rfl, rfl, ha, rfl, ?_⟩
    refine ⟨_, rfl, a, _, 1, _, rfl, rfl, SqL.of upd_same, at1, _, _, rfl, rfl, (by show (7 : Int) ≠ 0 ∧ _; decide), .inl ⟨_, rfl, _, rfl, _, _, rfl, rfl, hm, ?_⟩⟩
    exact hQ _ _ _ (Int.emod_nonneg _ (by omega)) (Int.emod_lt_of_pos _ hm) hx (Int.emod_nonneg _ (by decide))
end
end K99
set_option Elab.async false
set_option linter.all false
set_option maxRecDepth 100000
set_option maxHeartbeats 4000000
namespace K99
open PySem PySem.Spec PyProof.Rows L2
theorem pss_never {X : Cx} {ss : List Stmt} : PSs X ss (fun _ _ _ => False) := ⟨fun _ _ _ _ _ _ h => h.elim⟩
theorem same_upd {H : Hp} {D : Addr} {o : HO} (h : H D = none) : Same H (upd H D o) := fun b o' e => by rw [upd_ne (ne_of_none e h)]; exact e
theorem Same.trans {H H' H2 : Hp} (h : Same H H') (g : Same H' H2) : Same H H2 := fun b o e => g b o (h b o e)
theorem rd_same {H H' : Hp} {a : Addr} {o : HO} (s : Same H H') (h : Rd H a o) : Rd H' a o := by
  rcases h with h | ⟨ob, h⟩
  · exact .inl (s _ _ h)
  · exact .inr ⟨ob, s _ _ h⟩
theorem sqT_same {K : PySem.W.Frag} {H H' : Hp} {a : Addr} {xs : List V} (s : Same H H') (h : SqT K H a xs) : SqT K H' a xs := by
  rcases h with h | h
  · exact .inl (rd_same s h)
  · exact .inr h
abbrev sIsInt : Stmt := topS 8
def spIsInt : Sp := fun vs H Q _ => ∃ i : Int, vs = [.int i] ∧ Q (.bl true) H
theorem scIsInt : FnScope ["value"] ["value"] (defScope sIsInt) := ⟨rfl, rfl, rfl, by decide +kernel, rfl, by decide +kernel, by decide +kernel⟩
section
variable {P : Program} {w : World} {K : PySem.W.Frag} {mg : Str → Option Value} {base : Heap}
theorem ok_isint {f : Addr} {fd : FuncData} (F : FnP K "is_integer" sIsInt f fd) (gS : mg "isinstance" = none) (gI : mg "int" = none) (gB : mg "bool" = none) : FnOk P w K mg base CX0 1 f fd ["value"] spIsInt := by
  refine F.ok scIsInt (fun vs H Q E h => ?_) (fun cdv A outer s H vs Q E hr h => ?_)
  · obtain ⟨a, rfl, _⟩ := h
    rfl
  obtain ⟨i, rfl, hQ⟩ := h
  refine ⟨_, PSs.nox (pss_one (ps_ret (pe_and (pe_callB call_isi rfl gS (by decide +kernel) (pa_cons (pv 0) (pa_cons (pe_bltn (v := .ty "int") rfl gI (by decide +kernel) rfl) pa_nil)))
    (pe_one (pe_not (pe_callB call_isi rfl gS (by decide +kernel) (pa_cons (pv 0) (pa_cons (pe_bltn (v := .ty "bool") rfl gB (by decide +kernel) rfl) pa_nil)))))))), ?_⟩
  refine ⟨_, rfl, .int i, .ty "int", .type "int", .type "int", true, rfl, .ty "int", .base (.int i), kit_ty (by decide +kernel), true, rfl, ?_⟩
  exact ⟨_, rfl, .int i, .ty "bool", .type "int", .type "bool", false, rfl, .ty "bool", .base (.int i), kit_ty (by decide +kernel), false, rfl, hQ⟩
abbrev sInit : Stmt := methS 23 0
abbrev nInit : List Str := ["self", "e", "items", "low", "shared", "item"]
theorem scInit : FnScope nInit ["self", "e", "items", "low"] (defScope sInit) := ⟨rfl, rfl, rfl, by decide +kernel, rfl, by decide +kernel, by decide +kernel⟩
def spInit (K : PySem.W.Frag) (CM CZ : Addr) : Sp := fun vs H Q E => ∃ (x : V) (e low : Int) (a : Addr), vs = [x, .int e, .ref a, .int low] ∧
  ((e < 1 ∧ E (.ref CM) none H) ∨ (1 ≤ e ∧ e ≤ 5000 ∧ low = 0 ∧ SqT K H a [.int 1] ∧ ∀ H', Same H H' → E (.ref CZ) none H'))
structure ExcT (K : PySem.W.Frag) (C : Addr) : Prop where
  x : PySem.W.excIn K C He.veBase "ValueError.__new__" = true
  k : PySem.W.keepIn K (.ref C) = true
  b : PySem.W.subIn K (.ref C) (.type "BaseException") = some true
  t : PySem.W.typeIn K (.ref C) = some (.type "type")
theorem ok_init {f fI : Addr} {fd fdI : FuncData} {CM CZ : Addr} (F : FunD K "__init__" "Cyclo.__init__" (defArgs sInit) (defBody sInit) (defScope sInit) [.int 1] [] f fd) (FI : FnP K "is_integer" sIsInt fI fdI) (gI : mg "is_integer" = some (.ref fI)) (gS : mg "isinstance" = none) (gN : mg "int" = none) (gB : mg "bool" = none)
    (gA : mg "any" = none) {tm : Tok} (gM : mg "MOST" = some (.int 5000 tm)) (gCM : mg "Malformed" = some (.ref CM)) (gCZ : mg "ZeroDivisor" = some (.ref CZ)) (TM : ExcT K CM) (TZ : ExcT K CZ) :
    FnOk P w K mg base (L2N.CX P w) 2 f fd ["self", "e", "items", "low"] (spInit K CM CZ) := by
  have GI : FnOk P w K mg base CX0 1 fI fdI ["value"] spIsInt := ok_isint FI gS gN gB
  have bI : Binds K fdI ["value"] [] := FI.bindsN fun _ _ _ _ _ _ us hl => match us, hl with | [_], _ => rfl
  refine F.ok scInit (fun vs H Q E h => ?_) (fun cdv A outer s H vs Q E hr h => ?_)
  · obtain ⟨x, e, low, a, rfl, _⟩ := h
    rfl
  refine ⟨_, (pss_cons (ps_if (PW.pt (pw_or (pt_not (pt_val (pe_call GI hr rfl gI FI.kp bI .nil pass0 (pa_cons (pv 1) pa_nil))))
      (pw_or (pt_cmpR op_lt (pv 1) pe_int (nomark _)) (pw_or (pt_cmpR op_gt (pv 1) (pe_glob (v := .int 5000) rfl gM ⟨_, rfl⟩) (nomark _)) (pw_or1 (pt_not (pt_val (pe_call GI hr rfl gI FI.kp bI .nil pass0 (pa_cons (pv 3) pa_nil)))))))))
      (pss_one (L2N.ps_raise rfl (L2N.takes_of rfl rfl rfl rfl) (L2N.pmk_own PySem.F.excBase_ValueError TM.x gCM TM.k (raises_own TM.b TM.t) rfl))) pss_nil)
    (pss_cons (ps_if (pt_val (pe_callB (cr_any rfl) rfl gA (by decide +kernel) (pa_cons (pe_lc rfl scInit.nd (pi_tup (pv 2)) (blkOk_by (own := [("item", 5)]) (by show blkC nInit (defScope sInit) _ _ = true; decide +kernel)) (fun _ _ _ _ _ => pg_name (i := 5) scInit.nd rfl (.inl rfl)) (fun _ _ _ _ _ => pts_nil)
          (fun _ _ _ _ _ => pe_not (pe_call GI hr rfl gI FI.kp bI .nil pass0 (pa_cons (pv 5) pa_nil)))) pa_nil)))
        (pss_one (L2N.ps_raise rfl (L2N.takes_of rfl rfl rfl rfl) (L2N.pmk_own PySem.F.excBase_ValueError TM.x gCM TM.k (raises_own TM.b TM.t) rfl))) pss_nil)
      (pss_cons (ps_if (pt_cmpR op_eq (pv 3) pe_int (nomark _)) (pss_one (L2N.ps_raise rfl (L2N.takes_of rfl rfl rfl rfl) (L2N.pmk_own PySem.F.excBase_ValueError TZ.x gCZ TZ.k (raises_own TZ.b TZ.t) rfl))) pss_nil)
        pss_never))), ?_⟩
  obtain ⟨x, e, low, a, rfl, h⟩ := h
  have e1 : (decide (low < 1) : Bool) = decide (low < 1) := rfl
  rcases h with ⟨he, hE⟩ | ⟨h1, h2, rfl, hs, hE⟩
  · refine ⟨_, rfl, e, rfl, true, rfl, ?_⟩
    refine ⟨_, rfl, e, 1, rfl, rfl, _, rfl, ?_⟩
    rw [decide_eq_true he]
    exact hE
  · refine ⟨_, rfl, e, rfl, true, rfl, ?_⟩
    refine ⟨_, rfl, e, 1, rfl, rfl, _, rfl, ?_⟩
    rw [decide_eq_false (by omega)]
    refine ⟨_, rfl, e, 5000, rfl, rfl, _, rfl, ?_⟩
    rw [decide_eq_false (by omega)]
    refine ⟨_, rfl, 0, rfl, true, rfl, ?_⟩
    refine ⟨_, rfl, a, rfl, ⟨_, hs⟩, fun D hD => ?_⟩
    refine lc_tup (K := K) (a := a) (xs := [.int 1]) (fun i H' => H' = upd H D (.lst (List.replicate i (.bl false)))) rfl (fun i H' _ e => ?_) (fun i y H' hi e => ?_) (fun H' e => ?_)
    · subst e
      exact sqT_same (same_upd hD) hs
    · subst e
      obtain ⟨rfl, rfl⟩ : i = 0 ∧ y = .int 1 := by
        match i, hi with
        | 0, hi => exact ⟨rfl, (Option.some.inj hi).symm⟩
        | n + 1, hi => cases hi
      refine ⟨rfl, _, rfl, 1, rfl, true, rfl, _, upd_same, by show 0 < sizeLine; decide, ?_⟩
      rw [upd_upd]
      rfl
    · subst e
      refine ⟨D, [false], rfl, SqL.of upd_same, false, rfl, ?_⟩
      refine ⟨_, rfl, rfl, _, rfl, ?_⟩
      exact hE _ (same_upd hD)
end
end K99
set_option Elab.async false
set_option linter.all false
set_option maxRecDepth 100000
set_option maxHeartbeats 4000000
namespace K99
open PySem PySem.Spec PyProof.Rows L2
abbrev sMet : Stmt := topS 27
abbrev nMet : List Str := ["which", "reason", "at", "e", "kinds", "k"]
theorem scMet : FnScope nMet ["which", "reason", "at"] (defScope sMet) := ⟨rfl, rfl, rfl, by decide +kernel, rfl, by decide +kernel, by decide +kernel⟩
/-- the four classes: what is read off the top's end -/
structure KindT (K : PySem.W.Frag) (c : Nat → Addr) (CF : Addr) : Prop where
  ex : ∀ i, i < 4 → ExcC K (c i)
  kit : ∀ i j, i < 4 → j < 4 → PySem.W.kitOne K (.ref (c i)) (.ref (c j)) = some (decide (i = j))
  ve : ∀ i, i < 4 → PySem.W.kitOne K (.ref (c i)) (.type "ValueError") = some true
  exm : ∀ i, i < 4 → PySem.W.exmOne K (.ref (c i)) (.ref CF) = some true
  xf0 : XfC K (c 0)
  xf1 : XfC K (c 1)
  na0 : PySem.W.findIn K (.ref (c 0)) "reason" = some none
  na1 : PySem.W.findIn K (.ref (c 1)) "at" = some none
def spMet : Sp := fun vs H Q _ => ∃ (i : Nat) (r : Str) (t : Int), vs = [.int i, .str r, .int t] ∧ i < 4 ∧ ∀ H', Same H H' → Q (.bl true) H'
abbrev kq (K : PySem.W.Frag) (a : Addr) (cls : Value) (d : Option Addr) (v : V) : TE := tCB (rIsEX K a cls d) (tCons (tVar 3) (tCons (tC v) tNil))
def tSu (K : PySem.W.Frag) (c : Nat → Addr) (a : Addr) (cls : Value) (d : Option Addr) : TS :=
  tSeq (tAsg (tLst (tCons (kq K a cls d (.ref (c 0))) (tCons (kq K a cls d (.ref (c 1))) (tCons (kq K a cls d (.ref (c 2))) (tCons (kq K a cls d (.ref (c 3))) tNil))))) (gName 4))
    (tSeq (tIfS (tOr (tNot (tB (kq K a cls d (.ty "ValueError")))) (tTest (tOp (rNeD K) (tVar 4) (tLc (iRng1 (tCons (tCB (rLen K) (tCons (tVar 4) tNil)) tNil)) (gName 5) tYes (tOp rEq (tVar 5) (tVar 0)) [5])))) (tRet (tC (V.bl false))) tNext)
      (tRet (tOrV (tAndV (tOp rEq (tVar 0) (tC (V.int 0))) (tOp rEq (tXf a cls d (c 0) "reason" (tVar 3)) (tVar 1)))
        (tOrV (tAndV (tOp rEq (tVar 0) (tC (V.int 1))) (tOp rEq (tXf a cls d (c 1) "at" (tVar 3)) (tVar 2))) (tOp (rI0 fun i j => V.bl (decide (j < i))) (tVar 0) (tC (V.int 1)))))))
def rw4 (i n : Nat) : List V := (List.range n).map fun (j : Nat) => V.bl (decide (V.int (0 + ((j : Nat) : Int)) = V.int ((i : Nat) : Int)))
theorem rw4_succ (i n : Nat) : rw4 i (n + 1) = rw4 i n ++ [V.bl (decide (V.int (0 + (n : Int)) = V.int (i : Int)))] := by
  unfold rw4
  rw [List.range_succ, List.map_append]
  rfl
theorem dp_bls {K : PySem.W.Frag} {H : Hp} : ∀ bs : List Bool, DpAll K H (bs.map V.bl) (bs.map PyData.bool)
  | [] => .nil
  | b :: bs => .cons (.bl b) (dp_bls bs)
theorem su_ok {K : PySem.W.Frag} {c : Nat → Addr} {CF : Addr} (T : KindT K c CF) {i : Nat} (hi : i < 4) {r : Str} {t : Int} {a : Addr} {d : Option Addr} {H : Hp} {D : Ends}
    (hd : (d = none ∧ 1 < i) ∨ ∃ dd, d = some dd ∧ ((i = 0 ∧ H dd = some (.xd [("reason", .str r)])) ∨ (i = 1 ∧ H dd = some (.xd [("at", .int t)])))) (hQ : ∀ H', Same H H' → D.rt (.bl true) H') :
    tSu K c a (.ref (c i)) d D [some (V.int (i : Int)), some (V.str r), some (V.int t), some (V.ref a), none, none] H := by
  have hx : ∀ H', Same H H' → d = none ∨ ∃ dd fs, d = some dd ∧ H' dd = some (.xd fs) := fun H' s => by
    rcases hd with ⟨e, _⟩ | ⟨dd, e, ⟨_, h⟩ | ⟨_, h⟩⟩
    · exact .inl e
    · exact .inr ⟨dd, _, e, s _ _ h⟩
    · exact .inr ⟨dd, _, e, s _ _ h⟩
  have s0 : Same H H := fun _ _ e => e
  refine ⟨_, rfl, c i, .ref (c 0), .ref (c 0), _, rfl, T.ex i hi, rfl, fun u e => e, hx H s0, T.kit i 0 hi (by decide), ?_⟩
  refine ⟨_, rfl, c i, .ref (c 1), .ref (c 1), _, rfl, T.ex i hi, rfl, fun u e => e, hx H s0, T.kit i 1 hi (by decide), ?_⟩
  refine ⟨_, rfl, c i, .ref (c 2), .ref (c 2), _, rfl, T.ex i hi, rfl, fun u e => e, hx H s0, T.kit i 2 hi (by decide), ?_⟩
  refine ⟨_, rfl, c i, .ref (c 3), .ref (c 3), _, rfl, T.ex i hi, rfl, fun u e => e, hx H s0, T.kit i 3 hi (by decide), ?_⟩
  refine ⟨by show 4 ≤ sizeLine; decide, fun p hp => ?_⟩
  have s1 : Same H (upd H p (.lst [.bl (decide (i = 0)), .bl (decide (i = 1)), .bl (decide (i = 2)), .bl (decide (i = 3))])) := same_upd hp
  refine ⟨_, rfl, c i, .ty "ValueError", .type "ValueError", _, rfl, T.ex i hi, rfl, fun u e => e, hx _ s1, T.ve i hi, true, rfl, ?_⟩
  refine ⟨_, rfl, _, rfl, V.ref p, 4, rfl, .inl ⟨_, SqL.of upd_same, rfl⟩, 4, rfl, by decide, by decide, fun L hL => ?_⟩
  refine lc_range (lo := 0) (n := 4) (fun k H' => H' = upd (upd H p (.lst [.bl (decide (i = 0)), .bl (decide (i = 1)), .bl (decide (i = 2)), .bl (decide (i = 3))])) L (.lst (rw4 i k))) rfl (fun k H' hk e => ?_) (fun H' e => ?_)
  · subst e
    refine ⟨rfl, _, rfl, _, rfl, rfl, _, upd_same, ?_, ?_⟩
    · show (rw4 i k).length < sizeLine
      unfold rw4
      rw [List.length_map, List.length_range]
      exact Nat.lt_trans hk (by decide)
    · rw [upd_upd, rw4_succ]
  · subst e
    have s2 := s1.trans (same_upd (o := .lst (rw4 i 4)) hL)
    have np : p ≠ L := fun e => by rw [← e, upd_same] at hL; cases hL
    refine ⟨.list ([decide (i = 0), decide (i = 1), decide (i = 2), decide (i = 3)].map PyData.bool), .list (((List.range 4).map fun (j : Nat) => decide (V.int (0 + ((j : Nat) : Int)) = V.int ((i : Nat) : Int))).map PyData.bool),
      .lst (SqL.of (by rw [upd_ne np, upd_same]; rfl)) (dp_bls [decide (i = 0), decide (i = 1), decide (i = 2), decide (i = 3)]), .lst (SqL.of upd_same) (by have := dp_bls (K := K) (H := upd (upd H p (.lst [.bl (decide (i = 0)), .bl (decide (i = 1)), .bl (decide (i = 2)), .bl (decide (i = 3))])) L (.lst (rw4 i 4))) ((List.range 4).map fun (j : Nat) => decide (V.int (0 + ((j : Nat) : Int)) = V.int ((i : Nat) : Int))); exact this), rfl, rfl, ?_⟩
    have ev : (!PyData.eqv (.list ([decide (i = 0), decide (i = 1), decide (i = 2), decide (i = 3)].map PyData.bool)) (.list (((List.range 4).map fun (j : Nat) => decide (V.int (0 + ((j : Nat) : Int)) = V.int ((i : Nat) : Int))).map PyData.bool))) = false := by
      match i, hi with
      | 0, _ => rfl
      | 1, _ => rfl
      | 2, _ => rfl
      | 3, _ => rfl
    refine ⟨_, rfl, ?_⟩
    rw [ev]
    match i, hi, hd with
    | 0, _, hd =>
      rcases hd with ⟨_, z⟩ | ⟨dd, e, ⟨_, h⟩ | ⟨z, _⟩⟩
      · omega
      · refine ⟨_, rfl, rfl, true, rfl, _, rfl, rfl, rfl, dd, _, V.str r, e, s2 _ _ h, rfl, _, rfl, rfl, _, rfl, ?_⟩
        rw [decide_eq_true rfl]
        exact hQ _ s2
      · omega
    | 1, _, hd =>
      rcases hd with ⟨_, z⟩ | ⟨dd, e, ⟨z, _⟩ | ⟨_, h⟩⟩
      · omega
      · omega
      · refine ⟨_, rfl, rfl, false, rfl, _, rfl, _, rfl, rfl, true, rfl, _, rfl, rfl, rfl, dd, _, V.int t, e, s2 _ _ h, rfl, _, rfl, rfl, _, rfl, ?_⟩
        rw [decide_eq_true rfl]
        exact hQ _ s2
    | 2, _, _ => exact ⟨_, rfl, rfl, false, rfl, _, rfl, _, rfl, rfl, false, rfl, _, rfl, _, rfl, _, _, rfl, rfl, hQ _ s2⟩
    | 3, _, _ => exact ⟨_, rfl, rfl, false, rfl, _, rfl, _, rfl, rfl, false, rfl, _, rfl, _, rfl, _, _, rfl, rfl, hQ _ s2⟩
section
variable {P : Program} {w : World} {K : PySem.W.Frag} {mg : Str → Option Value} {base : Heap}
theorem ok_met {f fN fR fT : Addr} {fd fdN : FuncData} {c : Nat → Addr} {CF CC : Addr} (F : FnP K "_law_met" sMet f fd)
    (FN : FunD K "__init__" "Cyclo.__init__" (defArgs sInit) (defBody sInit) (defScope sInit) [.int 1] [] fN fdN) (GN : FnOk P w K mg base (L2N.CX P w) 2 fN fdN ["self", "e", "items", "low"] (spInit K (c 2) (c 3)))
    (T : KindT K c CF) (TR : PySem.SupX.SupTxt P K (c 0) fR "reason" "Refused.__init__") (TT : PySem.SupX.SupTxt P K (c 1) fT "at" "NoText.__init__") (MC : Mk K CC fN)
    (gS : mg "isinstance" = none) (gL : mg "len" = none) (gU : mg "super" = none) (gR : mg "range" = none) (gV : mg "ValueError" = none) (g0 : mg "Refused" = some (.ref (c 0))) (g1 : mg "NoText" = some (.ref (c 1))) (g2 : mg "Malformed" = some (.ref (c 2))) (g3 : mg "ZeroDivisor" = some (.ref (c 3)))
    (gF : mg "Fault" = some (.ref CF)) (gC : mg "Cyclo" = some (.ref CC)) : FnOk P w K mg base (L2N.CX P w) 4 f fd ["which", "reason", "at"] spMet := by
  obtain ⟨ds, hds, bN⟩ : ∃ ds, Vals [V.int 1] ds ∧ Binds K fdN ["self", "e", "items", "low"] ds := FN.binds1 3 0 (by simp) rfl fun _ _ _ _ _ _ _ us its hl hi => match us, its, hl, hi with | [_, _, _], [_], _, _ => ⟨_, rfl, rfl⟩
  obtain ⟨ds0, hds0, bN0⟩ : ∃ ds, Vals ([] : List V) ds ∧ Binds K fdN ["self", "e", "items", "low"] ds := FN.binds1 4 1 (by simp) rfl fun _ _ _ _ _ _ _ us its hl hi => match us, its, hl, hi with | [_, _, _, _], [_], _, _ => ⟨_, rfl, rfl⟩
  refine F.ok scMet (fun vs H Q E h => ?_) (fun cdv A outer s H vs Q E hr h => ?_)
  · obtain ⟨i, r, t, rfl, _⟩ := h
    rfl
  have hu : (A.deeper (envOfC "_law_met" (defScope sMet) s.heap.objs.size f cdv)).units + 64 < cLine := by have := hr.un; omega
  refine ⟨_, (pss_cons (L2N.ps_try_as (i := 3) rfl rfl scMet.nd rfl rfl ⟨rfl, rfl, .inl gF⟩ (L2N.takes_of rfl rfl rfl rfl)
    (fun W pn xe tk _ => pss_cons (ps_if (pt_cmpR op_eq (pv 0) pe_int (nomark _)) (pss_one (L2N.ps_raise rfl tk (pmk_supN TR gU g0 hr (pa_cons (pv 1) pa_nil) rfl))) pss_nil)
      (pss_cons (ps_if (pt_cmpR op_eq (pv 0) pe_int (nomark _)) (pss_one (L2N.ps_raise rfl tk (pmk_supN TT gU g1 hr (pa_cons (pv 2) pa_nil) rfl))) pss_nil)
      (pss_cons (ps_if (pt_cmpR op_eq (pv 0) pe_int (nomark _)) (pss_one (ps_expr (pe_makeS MC GN hr rfl gC bN hds (fun σ => L2N.passAt tk σ) (pa_cons pe_int (pa_cons (pe_tup (pa_cons pe_int pa_nil)) pa_nil))))) pss_nil)
      (pss_one (ps_if (pt_cmpR op_eq (pv 0) pe_int (nomark _)) (pss_one (ps_expr (pe_makeS MC GN hr rfl gC bN0 hds0 (fun σ => L2N.passAt tk σ) (pa_cons pe_int (pa_cons (pe_tup (pa_cons pe_int pa_nil)) (pa_cons pe_int pa_nil)))))) pss_nil)))))
    (fun a oe cls d pn hz hf => pss_cons (ps_set (i := 4) scMet.nd rfl (.inl rfl) (pe_lst (pa_cons (pe_callB (show CallR _ _ (rIsEX K a cls d) from call_isEX hz.zc hf) rfl gS (by decide +kernel) (pa_cons (pv 3) (pa_cons (pe_glob (v := .ref (c 0)) rfl g0 rfl) pa_nil)))
        (pa_cons (pe_callB (show CallR _ _ (rIsEX K a cls d) from call_isEX hz.zc hf) rfl gS (by decide +kernel) (pa_cons (pv 3) (pa_cons (pe_glob (v := .ref (c 1)) rfl g1 rfl) pa_nil)))
        (pa_cons (pe_callB (show CallR _ _ (rIsEX K a cls d) from call_isEX hz.zc hf) rfl gS (by decide +kernel) (pa_cons (pv 3) (pa_cons (pe_glob (v := .ref (c 2)) rfl g2 rfl) pa_nil)))
        (pa_cons (pe_callB (show CallR _ _ (rIsEX K a cls d) from call_isEX hz.zc hf) rfl gS (by decide +kernel) (pa_cons (pv 3) (pa_cons (pe_glob (v := .ref (c 3)) rfl g3 rfl) pa_nil))) pa_nil))))))
      (pss_cons (ps_if (PW.pt (pw_or (pt_not (pt_val (pe_callB (show CallR _ _ (rIsEX K a cls d) from call_isEX hz.zc hf) rfl gS (by decide +kernel) (pa_cons (pv 3) (pa_cons (pe_bltn (v := .ty "ValueError") rfl gV (by decide +kernel) rfl) pa_nil)))))
          (pw_or1 (pt_cmpR (show OpR _ _ (rNeD K) from op_neD hu) (pv 4) (L2H.pe_lcH (p := (a, oe)) rfl rfl (by obtain ⟨vs, e⟩ := hf; exact ⟨rfl, vs, e, hz.2.2 vs e⟩) List.mem_cons_self scMet.nd (L2H.pi_range1H rfl gR (pa_cons (pe_callB (show CallR _ (.builtin "len") (rLen K) from call_len) rfl gL (by decide +kernel) (pa_cons (pv 4) pa_nil)) pa_nil))
            (blkOk_by (own := [("k", 5)]) (by show blkC nMet (defScope sMet) _ _ = true; decide +kernel)) (fun _ _ _ _ _ => pg_name (i := 5) scMet.nd rfl (.inl rfl)) (fun _ _ _ _ _ => pts_nil) (fun _ _ _ _ _ => pe_cmpR op_eq (pv 5) (pv 0) (nomark _))) (nomark _)))))
        (pss_one (ps_ret pe_bl)) pss_nil)
      (pss_one (ps_ret (pe_or (pe_and (pe_cmpR op_eq (pv 0) pe_int (nomark _)) (pe_one (pe_cmpR op_eq (pe_xf T.xf0 T.na0 hz.zc hf (pv 3)) (pv 1) (nomark _))))
        (pe_or (pe_and (pe_cmpR op_eq (pv 0) pe_int (nomark _)) (pe_one (pe_cmpR op_eq (pe_xf T.xf1 T.na1 hz.zc hf (pv 3)) (pv 2) (nomark _)))) (pe_one (pe_cmpR op_gt (pv 0) pe_int (nomark _)))))))))) 
    (pss_one (ps_ret pe_bl))), ?_⟩
  obtain ⟨i, r, t, rfl, hi, hQ⟩ := h
  match i, hi with
  | 0, _ =>
    refine ⟨_, rfl, rfl, _, rfl, ?_⟩
    refine ⟨_, rfl, _, rfl, fun d hd => ?_⟩
    refine ⟨true, T.exm 0 (by decide), fun _ a ha => ?_, fun z => Bool.noConfusion z⟩
    exact su_ok T (i := 0) (by decide) (.inr ⟨d, rfl, .inl ⟨rfl, upd_same⟩⟩) fun H' s' => hQ H' ((same_upd hd).trans s')
  | 1, _ =>
    refine ⟨_, rfl, rfl, _, rfl, ?_⟩
    refine ⟨_, rfl, rfl, _, rfl, ?_⟩
    refine ⟨_, rfl, _, rfl, fun d hd => ?_⟩
    refine ⟨true, T.exm 1 (by decide), fun _ a ha => ?_, fun z => Bool.noConfusion z⟩
    exact su_ok T (i := 1) (by decide) (.inr ⟨d, rfl, .inr ⟨rfl, upd_same⟩⟩) fun H' s' => hQ H' ((same_upd hd).trans s')
  | 2, _ =>
    refine ⟨_, rfl, rfl, _, rfl, ?_⟩
    refine ⟨_, rfl, rfl, _, rfl, ?_⟩
    refine ⟨_, rfl, rfl, _, rfl, ?_⟩
    refine ⟨by show 1 ≤ sizeLine; decide, fun p hp x dx hx hdx hne => ?_⟩
    refine ⟨_, 0, 1, p, rfl, .inl ⟨by decide, ?_⟩⟩
    refine ⟨true, T.exm 2 (by decide), fun _ a ha => ?_, fun z => Bool.noConfusion z⟩
    exact su_ok T (i := 2) (by decide) (.inl ⟨rfl, by decide⟩) fun H' s' => hQ H' ((((same_upd hp).trans (same_upd hdx)).trans (same_upd (by rw [upd_ne (Ne.symm hne)]; exact hx))).trans s')
  | 3, _ =>
    refine ⟨_, rfl, rfl, _, rfl, ?_⟩
    refine ⟨_, rfl, rfl, _, rfl, ?_⟩
    refine ⟨_, rfl, rfl, _, rfl, ?_⟩
    refine ⟨_, rfl, rfl, _, rfl, ?_⟩
    refine ⟨by show 1 ≤ sizeLine; decide, fun p hp x dx hx hdx hne => ?_⟩
    have e1 := (same_upd (o := .own x) hdx).trans (same_upd (o := .ins CC dx []) (D := x) (by rw [upd_ne (Ne.symm hne)]; exact hx))
    refine ⟨_, 1, 0, p, rfl, .inr ⟨by decide, by decide, rfl, sqT_same e1 (SqT.of upd_same), fun H2 s2 => ?_⟩⟩
    refine ⟨true, T.exm 3 (by decide), fun _ a ha => ?_, fun z => Bool.noConfusion z⟩
    exact su_ok T (i := 3) (by decide) (.inl ⟨rfl, by decide⟩) fun H' s' => hQ H' ((((same_upd hp).trans e1).trans s2).trans s')
  | n + 4, h => exact absurd h (by omega)
end
end K99
set_option Elab.async false
set_option linter.all false
set_option maxRecDepth 100000
set_option maxHeartbeats 4000000
namespace K99
open PySem PySem.Spec PyProof.Rows L2
abbrev sLaw : Stmt := topS 28
abbrev nLaw : List Str := ["script", "state", "reason", "at", "k"]
theorem scLaw : FnScope nLaw ["script"] (defScope sLaw) := ⟨rfl, rfl, rfl, by decide +kernel, rfl, by decide +kernel, by decide +kernel⟩
def spLaw (K : PySem.W.Frag) : Sp := fun vs H Q _ => ∃ (a : Addr) (ns : List Int), vs = [.ref a] ∧ SqL K H a (ns.map V.int) ∧ ∀ H', Q (.bl true) H'
theorem passN {P : Program} {w : World} {X : Cx} : Passes (L2N.CX P w) X E0 := fun _ _ _ _ _ _ _ ⟨_, _, _, _, _, _, _, _, _, _, _, _, h⟩ => h.elim
theorem at_str {l : List Str} {v : Int} (h0 : 0 ≤ v) (h1 : v < l.length) : ∃ r, atI (l.map V.str) v = some (.str r) := by
  obtain ⟨n, rfl⟩ := Int.eq_ofNat_of_zero_le h0
  have hn : n < l.length := by omega
  refine ⟨l[n], ?_⟩
  unfold atI ixN
  rw [if_pos h0]
  simp [hn]
section
variable {P : Program} {w : World} {K : PySem.W.Frag} {mg : Str → Option Value} {base : Heap}
theorem ok_law {f fS fT fM : Addr} {fd fdS fdT fdM : FuncData} (F : FnP K "law" sLaw f fd) (FS : FnP K "_law_state" sState fS fdS) (FT : FnP K "_law_take" sTake fT fdT) (FM : FnP K "_law_met" sMet fM fdM)
    (GM : FnOk P w K mg base (L2N.CX P w) 4 fM fdM ["which", "reason", "at"] spMet) (gS : mg "_law_state" = some (.ref fS)) (gT : mg "_law_take" = some (.ref fT)) (gM : mg "_law_met" = some (.ref fM))
    (gI : mg "int" = none) (gA : mg "abs" = none) (gL : mg "len" = none) (gR : mg "range" = none) : FnOk P w K mg base CX0 5 f fd ["script"] (spLaw K) := by
  have GS : FnOk P w K mg base CX0 1 fS fdS ["script"] (spState K) := ok_state FS gI gA
  have GT : FnOk P w K mg base CX0 1 fT fdT ["state", "m"] spTake := ok_take FT gI
  have bS : Binds K fdS ["script"] [] := FS.bindsN fun _ _ _ _ _ _ us hl => match us, hl with | [_], _ => rfl
  have bT : Binds K fdT ["state", "m"] [] := FT.bindsN fun _ _ _ _ _ _ us hl => match us, hl with | [_, _], _ => rfl
  have bM : Binds K fdM ["which", "reason", "at"] [] := FM.bindsN fun _ _ _ _ _ _ us hl => match us, hl with | [_, _, _], _ => rfl
  refine F.ok scLaw (fun vs H Q E h => ?_) (fun cdv A outer s H vs Q E hr h => ?_)
  · obtain ⟨a, ns, rfl, _⟩ := h
    rfl
  obtain ⟨a, ns, rfl, hs, hQ⟩ := h
  refine ⟨_, PSs.nox (pss_cons (ps_set (i := 1) scLaw.nd rfl (.inl rfl) (pe_call GS (hr.mono (by decide)) rfl gS FS.kp bS .nil pass0 (pa_cons (pv 0) pa_nil)))
    (pss_cons (ps_set (i := 2) scLaw.nd rfl (by first | exact .inl rfl | exact .inr rfl) (pe_ix ix_list (pe_lst (pa_cons pe_str (pa_cons pe_str (pa_cons pe_str (pa_cons pe_str (pa_cons pe_str pa_nil)))))) (pe_call GT (hr.mono (by decide)) rfl gT FT.kp bT .nil pass0 (pa_cons (pv 1) (pa_cons pe_int pa_nil))) (fun _ _ => rfl)))
    (pss_cons (ps_set (i := 3) scLaw.nd rfl (by first | exact .inl rfl | exact .inr rfl) (pe_call GT (hr.mono (by decide)) rfl gT FT.kp bT .nil pass0 (pa_cons (pv 1) (pa_cons (pe_op op_pow pe_int pe_int) pa_nil))))
      (pss_one (ps_ret (pe_cmpR op_eq (pe_callB (show CallR _ (.builtin "len") (rLen K) from call_len) rfl gL (by decide +kernel) (pa_cons (pe_lc rfl scLaw.nd (pi_range1 rfl gR (pa_cons pe_int pa_nil)) (blkOk_by (own := [("k", 4)]) (by show blkC nLaw (defScope sLaw) _ _ = true; decide +kernel))
          (fun _ _ _ _ _ => pg_name (i := 4) scLaw.nd rfl (.inl rfl)) (fun _ _ _ _ _ => pts_one (pt_not (pt_val (pe_call GM hr rfl gM FM.kp bM .nil passN (pa_cons (pv 4) (pa_cons (pv 2) (pa_cons (pv 3) pa_nil)))))))
          (fun _ _ _ _ _ => pv 4)) pa_nil)) pe_int (nomark _))))))), ?_⟩
  refine ⟨_, rfl, a, ns, rfl, hs, fun s0 t0 H1 p h0 h1 s1 hp1 hp2 => ?_⟩
  refine ⟨by show 5 ≤ sizeLine; decide, fun q hq => ?_⟩
  have npq : p ≠ q := fun e => by rw [e, hq] at hp2; cases hp2
  refine ⟨_, rfl, p, s0, t0, 5, rfl, by rw [upd_ne npq]; exact hp2, h0, h1, by decide, by decide, fun v s' t' v0 v1 a0 a1 => ?_⟩
  obtain ⟨r, hr'⟩ := at_str (l := ["large", "empty", "many", "x", "name"]) v0 v1
  refine ⟨q, _, v, _, rfl, rfl, SqL.of (by rw [upd_ne (Ne.symm npq), upd_same]; rfl), hr', ?_⟩
  refine ⟨_, rfl, _, _, rfl, rfl, ⟨by decide, by decide, by decide⟩, ?_⟩
  refine ⟨p, s', t', (10 : Int) ^ (6 : Int).toNat, rfl, upd_same, a0, a1, by decide, by decide, fun at_ s2 t2 b0 b1 c0 c1 => ?_⟩
  generalize hG : upd (upd (upd H1 q _) p _) p _ = G
  refine ⟨4, rfl, by decide, by decide, fun D hD => ?_⟩
  refine lc_range (lo := 0) (n := 4) (fun k H' => H' D = some (.lst [])) upd_same (fun k H' hk e => ?_) (fun H' e => ?_)
  · refine ⟨rfl, _, rfl, _, rfl, _, rfl, k, r, at_, ?_, hk, fun H2 s => ⟨true, rfl, ?_⟩⟩
    · rw [Int.zero_add]
      rfl
    · exact s _ _ e
  · exact ⟨_, _, rfl, .inl ⟨_, SqL.of e, rfl⟩, rfl, hQ _⟩
end
end K99
set_option Elab.async false
set_option linter.all false
set_option maxRecDepth 100000
set_option maxHeartbeats 4000000
namespace K99
open PySem PySem.Spec PyProof.Rows L2
theorem mem_fa {x : He.Fa} (h : x ∈ fa0 ∨ x ∈ fa1) : x ∈ fa := List.mem_append.mpr h
theorem facts {w : World} {K : PySem.W.Frag} {h : Heap} {mg : Str → Option Value} {f : Addr} (X : K.In h) (G : h.Ns mainGlobals mg) (hfa : mg ("law" : Str) = some (.ref f)) (c : HS.Says R.prog ask K) :
    ∃ fd : FuncData, (∀ (s : Shared) (v : Value), BindsTo s fd ⟨[v], []⟩ [("script", v)]) ∧ ∀ base : Heap, K.In base → base.Ns mainGlobals mg → FnOk R.prog w K mg base CX0 5 f fd ["script"] (spLaw K) := by
  have mf : ∀ {x : He.Fa}, x ∈ fa → x.ok K = true := fun hx => c.fact hx
  obtain ⟨fdI, FI⟩ := c.def_ (d := d_is_integer) (by simp [ask, fn, fn0])
  obtain ⟨fdN, FN⟩ := c.def_ (d := d_Cyclo___init__) (by simp [ask, fn, fn0])
  obtain ⟨fdS, FS⟩ := c.def_ (d := d__law_state) (by simp [ask, fn, fn0])
  obtain ⟨fdT, FT⟩ := c.def_ (d := d__law_take) (by simp [ask, fn, fn0])
  obtain ⟨fdM, FM⟩ := c.def_ (d := d__law_met) (by simp [ask, fn, fn0])
  obtain ⟨fd, F⟩ := c.def_ (d := d_law) (by simp [ask, fn, fn0])
  have TR := c.supd (d := ⟨"Refused", "reason", "Refused.__init__", _⟩) (.head _) HS.supN_reason
  have TT := c.supd (d := ⟨"NoText", "at", "NoText.__init__", _⟩) (.tail _ (.head _)) HS.supN_at
  have glo : ∀ x : Str, He.Fa.glo x ∈ fa → mg x = some (.ref (He.ga K x)) := fun x hx => He.glo_ok X G (mf hx)
  have free : ∀ x : Str, He.Fa.free x ∈ fa → mg x = none := fun x hx => He.free_ok X G (mf hx)
  obtain ⟨hk, hx0, hx1⟩ : HS.kindB K kinds = true ∧ xfB K (He.ga K "Refused") = true ∧ xfB K (He.ga K "NoText") = true := by
    have m := c.parts.2.2.2
    obtain ⟨m1, m2⟩ := He.ba (show (HS.kindB K kinds && (xfB K (He.ga K "Refused") && xfB K (He.ga K "NoText"))) = true from m)
    exact ⟨m1, He.ba m2⟩
  obtain ⟨k1, k2⟩ := HS.kindB_ok hk
  have T : KindT K (fun i => He.ga K (kinds.getD i "")) (He.ga K "Fault") := by
    refine ⟨fun i hi => (k1 i hi).1, fun i j hi hj => k2 i j hi hj, fun i hi => (k1 i hi).2, fun i hi => ?_, xfB_ok hx0, xfB_ok hx1, ?_, ?_⟩
    · match i, hi with
      | 0, _ => exact He.exm_ok (x := "Refused") (y := "Fault") (mf (by simp [fa, fa0, fa1]))
      | 1, _ => exact He.exm_ok (x := "NoText") (y := "Fault") (mf (by simp [fa, fa0, fa1]))
      | 2, _ => exact He.exm_ok (x := "Malformed") (y := "Fault") (mf (by simp [fa, fa0, fa1]))
      | 3, _ => exact He.exm_ok (x := "ZeroDivisor") (y := "Fault") (mf (by simp [fa, fa0, fa1]))
    · exact He.eqO_ok (mf (x := .noat "Refused" "reason") (by simp [fa, fa0, fa1]))
    · exact He.eqO_ok (mf (x := .noat "NoText" "at") (by simp [fa, fa0, fa1]))
  have e := hfa.symm.trans (glo "law" (by simp [fa, fa0, fa1]))
  cases e
  have b := FunD.bindsA (ps := ["script"]) F fun _ _ _ _ _ _ us hl => match us, hl with | [_], _ => rfl
  obtain ⟨q1, q2, q3, q4⟩ := He.exc_ok (x := "Malformed") (mf (by simp [fa, fa0, fa1]))
  obtain ⟨r1, r2, r3, r4⟩ := He.exc_ok (x := "ZeroDivisor") (mf (by simp [fa, fa0, fa1]))
  obtain ⟨tm, gM⟩ := He.int_ok X G (x := "MOST") (i := 5000) (mf (by simp [fa, fa0, fa1]))
  have MC : Mk K (He.ga K "Cyclo") (He.ma K (He.ga K "Cyclo") "__init__") := He.mkr_ok (x := "Cyclo") (mf (by simp [fa, fa0, fa1]))
  refine ⟨fd, fun s v => b s [v] rfl, fun base _ _ => ?_⟩
  have fr : ∀ x : Str, He.Fa.free x ∈ fa → mg x = none := free
  have GN := ok_init (P := R.prog) (w := w) (mg := mg) (base := base) FN FI (glo "is_integer" (by simp [fa, fa0, fa1])) (free "isinstance" (by simp [fa, fa0, fa1])) (free "int" (by simp [fa, fa0, fa1])) (free "bool" (by simp [fa, fa0, fa1])) (free "any" (by simp [fa, fa0, fa1])) gM
    (glo "Malformed" (by simp [fa, fa0, fa1])) (glo "ZeroDivisor" (by simp [fa, fa0, fa1])) ⟨q1, q2, q3, q4⟩ ⟨r1, r2, r3, r4⟩
  have GM := ok_met (P := R.prog) (w := w) (mg := mg) (base := base) FM FN GN T TR TT MC (free "isinstance" (by simp [fa, fa0, fa1])) (free "len" (by simp [fa, fa0, fa1])) (free "super" (by simp [fa, fa0, fa1])) (free "range" (by simp [fa, fa0, fa1])) (free "ValueError" (by simp [fa, fa0, fa1]))
    (glo "Refused" (by simp [fa, fa0, fa1])) (glo "NoText" (by simp [fa, fa0, fa1])) (glo "Malformed" (by simp [fa, fa0, fa1])) (glo "ZeroDivisor" (by simp [fa, fa0, fa1])) (glo "Fault" (by simp [fa, fa0, fa1])) (glo "Cyclo" (by simp [fa, fa0, fa1]))
  exact ok_law F FS FT FM GM (glo "_law_state" (by simp [fa, fa0, fa1])) (glo "_law_take" (by simp [fa, fa0, fa1])) (glo "_law_met" (by simp [fa, fa0, fa1])) (free "int" (by simp [fa, fa0, fa1])) (free "abs" (by simp [fa, fa0, fa1])) (free "len" (by simp [fa, fa0, fa1])) (free "range" (by simp [fa, fa0, fa1]))
end K99
open PySem PySem.W PySem.Calls PyProof.Rows
theorem PySem.Challenge.cw_characterroads_k99_errors_of_the_program_holds : PySem.Challenge.rw_characterroads_k99_errors_of_the_program.Holds := by
  w_on; o_law
  refine HandSHeadRun.head_any (r := OpenLaw.row PySem.Challenge.rw_characterroads_k99_errors_of_the_program) (q := view (OpenLaw.row PySem.Challenge.rw_characterroads_k99_errors_of_the_program).prog [28]) (H := K99.hk) (ob := K99.ob) (M := 20000) (loose := K99.names) (d := HandSHeadRun.topDef (OpenLaw.row PySem.Challenge.rw_characterroads_k99_errors_of_the_program).prog 28) (kwd := []) K99.ob_eq
    (by kernel_rfl) (fun s => by kernel_rfl) K99.run (by kernel_rfl) (by kernel_rfl) (by kernel_rfl) (by rfl) (by first | assumption | decide +kernel) (by decide +kernel) ⟨rfl, rfl, rfl, rfl, rfl, by decide +kernel⟩ ?hw ?hc
  case hw => w_witness2
  case hc =>
    refine L2.walk_ofE (l := PySem.Challenge.rw_characterroads_k99_errors_of_the_program) (n := 63) (k := 5) (x := "script") (CX := L2.CX0) rfl (by decide) (by kernel_rfl) ⟨rfl, by decide, by decide⟩ ?F (fun _ _ _ _ z => z)
    intro w mg fa h Y G hmg0
    obtain ⟨K, KX, c⟩ := Y
    have hmg : mg ("law" : PySem.Str) = some (.ref fa) := by
      have e : (HandSHeadRun.topDef (OpenLaw.row PySem.Challenge.rw_characterroads_k99_errors_of_the_program).prog 28).name = ("law" : PySem.Str) := by kernel_rfl
      rw [← e]
      exact hmg0
    obtain ⟨fd, hb, hF⟩ := K99.facts (w := w) KX G hmg c
    exact ⟨K, fd, K99.spLaw K, KX, hb, fun H a ns hl _ hS => ⟨a, ns, rfl, hS, fun _ => rfl⟩, hF⟩
