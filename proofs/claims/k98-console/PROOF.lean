import PyProof.Rows.All
import Wide.All
import OpenK.AllK
import Wide.FinOn
import PyProof.EqAt
import PyProof.EqKinds
import PyProof.TupleCall
import KE.KExcSuper
import HandS.Base
import HandS.Call
import HandS.Exc
import HandS.ExcInit
import HandS.ExcCtx
import KE.KStateDown
import HandS.Ends
import HandS.More
import HandS.Words
import HandS.WordsExc
import HandS.Defaults
import HandS.Head0
import HandS.Head1
import HandS.Head2
import HandS.HeadEnd
import HandS.HeadHook1
import HandS.HeadHook2
import HandS.HeadHook3
import HandS.ExcField
import HandS.Head3
import PySem.Challenge.RW_characterroads_k98_lines_as_many_as_told
import KE.KIsAll
import KE.KExcIs
import HandS.Comp
import HandS.HotCalls
import HandS.IsInst
import HandS.ExcIs
import HandS.ExcOwn
import HandS.ForMost
import HandS.StrMore
import HandS.Walk
import HandS.CallSlots
import HandS.IterVal
import HandS.OwnEq
import HandS.OwnIter
import PyProof.InstSpecial
import PyProof.NeKinds
import HandS.ForExc
import HandS.Wide
import HandS.DictComp
set_option Elab.async false
set_option linter.all false
set_option maxRecDepth 100000
set_option maxHeartbeats 4000000
/-! An own error over ValueError (any number of own classes between) whose __init__ is «super().__init__(f); self.f = f»: made by a call of its class. -/
namespace PySem
namespace SupX
open PySem.W PySem.Calls PyProof.Rows PySem.HandSPX
/-- the places in the text of one such __init__ -/
structure Ps where
  (a1 a2 q1 q2 q3 q4 q5 q6 q7 q8 q9 q10 : Pos)
def iA (f : Str) (p : Ps) : Arguments := { posonlyargs := [], args := [{ arg := "self", annotation := none, pos := p.a1 }, { arg := f, annotation := none, pos := p.a2 }], vararg := none, kwonlyargs := [], kw_defaults := [], kwarg := none, defaults := [] }
def iB (f : Str) (p : Ps) : List Stmt :=
  [.Expr (.Call (.Attribute (.Call (.Name "super" p.q1) [] [] p.q2) "__init__" p.q3) [.Name f p.q4] [] p.q5) p.q6, .Assign [.Attribute (.Name "self" p.q7) f p.q8] (.Name f p.q9) p.q10]
def iS (f : Str) : Scope := { kind := .function, names := [(PySem.Str.ofString "self", .local), (f, .local), (PySem.Str.ofString "__class__", .free), (PySem.Str.ofString "super", .globalImplicit)], isGenerator := false, isCoroutine := false, more := [] }
/-- how the two parameters are bound -/
def BindF (f : Str) : Prop := ∀ (qual : Str) (p : Ps) (doc pm cdv ct : Value) (an : Option Addr) (cc : Addr) (a b : Value),
  bindArgs (ksFn "__init__" qual (iA f p) (iB f p) (iS f) .none .none doc pm an cdv ct cc) ⟨[a, b], []⟩ = pure [(("self" : Str), a), (f, b)]
/-- what the written part says of the class at C and its __init__ at fI -/
structure SupTxt (prog : Program) (K : Frag) (C fI : Addr) (f qual : Str) : Prop where
  cls : ∃ nm q N bs bm sn sub ab col dd k0 k1 k2 k3 k5, K.lookup C = some (excClassObj nm q C N bs bm true sn sub ab col dd k0 k1 k2 k3 k5 "ValueError.__new__") ∧ refsVE bm = true
  sa : findIn K (.ref C) "__setattr__" = some (some (.builtin "object.__setattr__"))
  noN : findIn K (.ref C) f = some none
  iC : findIn K (.ref C) "__init__" = some (some (.ref fI))
  tC : typeIn K (.ref fI) = some (.type "function")
  kC : keepIn K (.ref C) = true
  exC : subIn K (.ref C) (.type "BaseException") = some true
  veC : subIn K (.ref C) (.type "ValueError") = some true
  tyC : typeIn K (.ref C) = some (.type "type")
  hdC : hasDictIn K C = true
  mrC : mroIn K C (.ref C) = some true
  sup : ks_superIn K C C "__init__" = some (some (.builtin "ValueError.__init__"))
  tp : nsIn K cStatics "thirdparty.any" = some none
  bnd : BindF f
  lkF : (iS f).names.lookup f = some .local
  lkK : (iS f).names.lookup ("__class__" : Str) = some .free
  lkS : (iS f).names.lookup ("super" : Str) = some .globalImplicit
  fS : (f == ("self" : Str)) = false
  fD : (f == ("__debug__" : Str)) = false
  fn : ∃ (oc : Value) (od : Option Addr) (doc pm : Value) (an : Option Addr) (ct : Value) (osl : Array (Option Value)) (p : Ps) (cc cda : Addr) (ccl cl : Value) (cdd cld : Option Addr) (ccs csl : Array (Option Value)) (vs : Array Value) (file : Str) (tf : Tok),
    K.lookup fI = some ⟨oc, od, .func (ksFn "__init__" qual (iA f p) (iB f p) (iS f) .none .none doc pm an (.ref cda) ct cc), osl⟩ ∧ codeIn K (.ref cda) qual = true ∧ (p.q3.endLine == p.q5.line) = true ∧
    K.lookup cda = some ⟨ccl, cdd, .fields vs, ccs⟩ ∧ vs[2]? = some (.str file tf) ∧ ((prog.main.file : Str) == file) = true ∧ (prog.main.scope.names.lookup ("super" : Str)).isSome = false ∧
    K.lookup cc = some ⟨cl, cld, .cell (some (.ref C)), csl⟩
/-- what __init__ leaves of a fresh exception at x -/
structure InitEnd (h h' : Heap) (x C dx t1 : Addr) (f : Str) (v : Value) : Prop where
  keep : ∀ b o, b ≠ x → h.get? b = some o → h'.get? b = some o
  obj : h'.get? x = some { cls := .ref C, dict := some dx, data := .fields #[.ref t1, .none, .none, .none, .bool false, .none] }
  dbig : h.objs.size ≤ dx
  dne : dx ≠ x
  ns : h'.Ns1 dx (fun y => if y = f then some v else none)
/-- a made one -/
structure OwnMade (h h' : Heap) (e C d : Addr) (f : Str) (v : Value) : Prop where
  keep : ∀ b o, h.get? b = some o → h'.get? b = some o
  new : h.objs.size ≤ e
  obj : ∃ oe vs, h'.get? e = some oe ∧ oe.cls = .ref C ∧ oe.dict = some d ∧ oe.data = .fields vs ∧ vs[1]? = some .none ∧ vs[2]? = some .none
  dbig : h.objs.size ≤ d
  dne : d ≠ e
  ns : h'.Ns1 d (fun y => if y = f then some v else none)
theorem one_size (v : Value) : [v].length ≤ sizeLine := by
  rw [sizeLine_eq]
  exact (by decide : 1 ≤ 16777216)
section
variable {prog : Program} {w : World} {A : Around} {E : Value → Shared → Prop} {R : Result → Shared → Prop} {s : Shared} {K : Frag} {mg mb : Str → Option Value} {C fI : Addr} {f qual : Str}
theorem call_mw {hp : Heap} {g : Array GenState} {d : Drawn} {t : Nat} {os : OsState} {nm q : Str} {N : Addr} {bs bm : List Value} {hdct : Bool} {sn : List Str} {sub : List Value} {ab : Bool} {col : Option Bool} {dd : Option Addr} {k0 k1 k2 k3 k5 : Option Value}
    {u e t0 : Addr} {rest : List Value} {Q : Value → Shared → Prop}
    (hC : hp.get? C = some (excClassObj nm q C N bs bm hdct sn sub ab col dd k0 k1 k2 k3 k5 "ValueError.__new__")) (he : hp.get? e = some (excO C t0)) (hu : hp.get? u = some (kxs_mw "ValueError.__init__" e)) (hrest : rest.length ≤ sizeLine)
    (hq : ∀ h' t1, (∀ b o, b ≠ e → hp.get? b = some o → h'.get? b = some o) → h'.get? e = some (excO C t1) → Q .none ⟨h', g, d, t, os⟩) :
    wpAny (model prog w) A (call (.ref u) rest) Q E ⟨hp, g, d, t, os⟩ := by
  refine wpAny_call (codeAny_of_tree ?_)
  show wpAny _ A.in1 (callAny (.ref u) ⟨rest, []⟩) _ _ _
  simp only [callAny]
  refine wpAny_bind (wpAny_load hu ?_)
  simp only [kxs_mw, show (Value.type "method-wrapper" == Value.type "method" || Value.type "method-wrapper" == Value.type "builtin_function_or_method" || Value.type "method-wrapper" == Value.type "method-wrapper") = true by decide, if_true]
  refine W.KFB.if_so (by decide) ?_
  refine wpAny_bind (check_bound_init F.excBase_ValueError.toExcCallFacts hC he rfl ?_)
  refine wpAny_bind (wpAny_pure (wpAny_pure ?_))
  refine ⟨plainId_quiet F.excBase_ValueError.init.plain _, codeAny_builtin F.excBase_ValueError.initEntry ?_⟩
  rw [Around.under_plainId F.excBase_ValueError.init.plain _]
  wp_walk
  refine hq _ hp.objs.size (fun b o hb ho => ?_) ?_
  · rw [Heap.get?_update_other _ _ (Ne.symm hb)]
    exact Heap.get?_push_of_some _ ho
  · rw [Heap.get?_update_self _ (Heap.get?_push_of_some _ he) rfl]
    rfl
theorem call_line {o : Expr} {name : Str} {apos pos : Pos} {args : List Expr} {env : Env} (hl : (apos.endLine == pos.line) = true) (hform : methodCallForm (args.length + ([] : List Keyword).length) (backTo pos (starEach args env)) (backToKw pos (keywordEach [] env)) = true) :
    eval (.Call (.Attribute o name apos) args [] pos) env = (do
      let ov ← attributeBase o name env (eval o env)
      standAt apos.atName
      let (f, first) ← holding [ov] (getMethod ov name (do return (← importBound o env).getD true))
      callWith pos f first (backTo pos (starEach args env)) []) := by
  rw [arm_eval_Call]
  unfold methodCall
  rw [hform]
  have hpos : methodCallPos true o env apos pos = pure pos := by unfold methodCallPos; simp [hl]
  rw [hpos]
  rfl
theorem ldA {M : Model} {s : Shared} {env : Env} {m : Str → Option Value} {x : Str} {pos : Pos} {v : Value} {Q : Value → Shared → Prop} (hk : env.scope.kind = .function) (hl : env.kindOf x = some .local) (hn : s.heap.Ns env.locals m) (hv : m x = some v) (h : Q v s)
    (hd : (x == ("__debug__" : Str)) = false) : wpAny M A (eval (.Name x pos) env) Q E s := wpAny_Name (wpAny_loadName_local hk hl hn hv h) hd
theorem binds_look {x : Addr} {v : Value} (hf : (f == ("self" : Str)) = false) : ([(("self" : Str), Value.ref x), (f, v)] : List (Str × Value)).reverse.lookup f = some v ∧ ([(("self" : Str), Value.ref x), (f, v)] : List (Str × Value)).reverse.lookup ("self" : Str) = some (.ref x) := by
  have h2 : (("self" : Str) == f) = false := by
    cases e : (("self" : Str) == f) with
    | false => rfl
    | true =>
      have z := beq_iff_eq.mp e
      rw [← z] at hf
      simp at hf
  constructor
  · simp [List.lookup]
  · simp [List.lookup, h2]
theorem sup_init (T : SupTxt prog K C fI f qual) {x t0 : Addr} {v : Value} (X : K.In s.heap) (G : s.heap.Ns mainGlobals mg) (hmg : mg "super" = none) (Bn : s.heap.Ns builtinsNs mb) (hmb : mb "super" = some (.type "super")) (hlim : s.heap.NoLimit)
    (hx : s.heap.get? x = some (excO C t0)) (hnx : K.lookup x = none) (hroom : A.depth < recursionLimit)
    (hq : ∀ h' tk dx t1, InitEnd s.heap h' x C dx t1 f v → R (.ok (.ret .none)) { s with heap := h', toks := tk }) :
    codeAny (model prog w) A (.call (.ref fI) ⟨[.ref x, v], []⟩) R s := by
  obtain ⟨oc, od, doc, pm, an, ct, osl, p, cc, cda, ccl, cl, cdd, cld, ccs, csl, vs, file, tf, ho, hcd, hline, hcode, hvs, hfile, htop, hcell⟩ := T.fn
  obtain ⟨nm, q, N, bs, bm, sn, sub, ab, col, dd, k0, k1, k2, k3, k5, hC, hbm⟩ := T.cls
  have hcl : clsIn K C = some { name := nm, bases := bs, mro := .ref C :: bm, ns := N, qualname := q, hasDict := true, slotNames := sn, subclasses := sub, abstract := ab, collection := col, hasDel := false } := by unfold clsIn; rw [hC] <;> rfl
  obtain ⟨lkf, lks⟩ := binds_look (x := x) (v := v) T.fS
  refine ks_codeAny_call_defAt (fd := ksFn "__init__" qual (iA f p) (iB f p) (iS f) .none .none doc pm an (.ref cda) ct cc) (body := iB f p) (binds := [("self", .ref x), (f, v)]) hroom (X _ _ ho) rfl hlim (codeRec_of X hcd) rfl
    (BindsTo.of_eq (T.bnd _ _ _ _ _ _ _ _ _ _)) ?hcell ?hloc (fun h₁ hns k => ?_) rfl rfl rfl
  case hcell =>
    intro y hy
    simp only [ksFn, fnX, iS, List.mem_cons, List.not_mem_nil, or_false] at hy
    rcases hy with rfl | rfl | rfl | rfl <;> simp
  case hloc =>
    intro y hy
    simp only [List.mem_cons, List.not_mem_nil, or_false] at hy
    rcases hy with rfl | rfl
    · rfl
    · exact T.lkF
  have X₁ : K.In h₁ := X.keeps k
  have hx₁ := k _ _ hx
  have hxL : s.heap.objs.size ≠ x := Nat.ne_of_gt (Heap.lt_size hx)
  obtain ⟨hp, g, d, tk, os⟩ := s
  have I1 : InstAt h₁ x (excO C t0) C none := ⟨hx₁, rfl, rfl, trivial⟩
  obtain ⟨oD, hD1, hD2⟩ : ∃ oD, h₁.get? C = some oD ∧ oD.data = .cls { name := nm, bases := bs, mro := .ref C :: bm, ns := N, qualname := q, hasDict := true, slotNames := sn, subclasses := sub, abstract := ab, collection := col, hasDel := false } := ⟨_, X₁ _ _ hC, rfl⟩
  -- super().__init__(f)
  refine ks_wpAt_execs_cons (ks_wpAt_Expr_any (ks_wpAt_MethodCall (pl := do return (← importBound (.Call (.Name "super" p.q1) [] [] p.q2) (callEnv (ksFn "__init__" qual (iA f p) (iB f p) (iS f) .none .none doc pm an (.ref cda) ct cc) hp.objs.size fI)).getD true) ?_ (call_line hline rfl)))
  refine ks_wpAt_super_base (env := callEnv (ksFn "__init__" qual (iA f p) (iB f p) (iS f) .none .none doc pm an (.ref cda) ct cc) hp.objs.size fI) T.lkS T.lkK rfl rfl (X₁ _ _ ho) rfl rfl rfl (X₁ _ _ hcode) rfl hvs hfile htop ?_
  refine ks_loadName_global rfl T.lkS (loadGlobal_builtin (G.keeps k) hmg (Bn.keeps k) hmb ⟨rfl, ?_⟩)
  refine wpAny_loadName_free rfl T.lkK rfl ⟨_, X₁ _ _ hcell, rfl⟩ ?_
  refine wpAny_loadName_local rfl rfl hns lks ?_
  refine ks_wpAny_isType_cls hD1 hD2 ⟨rfl, ?_⟩
  refine ks_wpAny_call_super hD1 hD2 hx₁ rfl (fun c e => by cases e) (looks_mroIn X₁ T.mrC) (fun h₂ e₂ k₂ => ?_)
  have X₂ : K.In h₂ := X₁.keeps k₂
  have hx₂ := k₂ _ _ hx₁
  have I2 : InstAt h₂ x (excO C t0) C none := ⟨hx₂, rfl, rfl, trivial⟩
  have hm := T.sup
  unfold ks_superIn at hm
  rw [hcl] at hm
  refine kxs_getMethod kxs_ValueError e₂ (looks_opaque X₂ T.tp) (l₀ := .ref C :: bm) ?_ rfl X₂ hm (I2.type.andThen (looks_subIn X₂ T.veC)) (ks_ne X₂ I2 hcl) rfl ?_
  · exact fun A Q E s k q => wpAny_bind ((looks_clsIn X₂ hcl) A _ E s k (wpAny_pure q))
  have ku : (h₂.push (kxs_mw "ValueError.__init__" x)).get? h₂.objs.size = some (kxs_mw "ValueError.__init__" x) := Heap.get?_push_at rfl rfl
  have k₃ : ∀ b o, h₂.get? b = some o → (h₂.push (kxs_mw "ValueError.__init__" x)).get? b = some o := fun b o e => Heap.get?_push_of_some _ e
  have hn₃ := (hns.keeps k₂).keeps k₃
  refine kxs_callWith (i := "ValueError.__init__") (x := x) rfl (evalArgs_plain (rest := []) ?_)
  refine spliced_cons ?_
  rw [if_neg Bool.false_ne_true]
  refine ldA (v := v) rfl T.lkF hn₃ lkf ?_ T.fD
  refine spliced_nil ⟨ku, ?_⟩
  refine call_mw (X₂.keeps k₃ _ _ hC) (k₃ _ _ hx₂) ku (one_size v) (fun h₄ t4 k4 hx4 => ?_)
  have X₄ : K.In h₄ := fun a o e => k4 a o (fun z => by rw [z, hnx] at e; cases e) (k₃ _ _ (X₂ a o e))
  have nx : hp.objs.size ≠ x := hxL
  have hn₄ : h₄.Ns hp.objs.size _ := hn₃.at fun o e => k4 _ o nx e
  -- self.f = f
  refine ks_wpAt_execs_cons (wpAt_of_wpAny (plainObj_wpAny_Assign_Attribute ?_))
  refine ldA (v := v) rfl T.lkF hn₄ lkf ?_ T.fD
  refine ldA (v := .ref x) rfl rfl hn₄ lks ?_ rfl
  refine set_plain X₄ (ox := excO C t4) (od := none) ⟨hx4, rfl, rfl, trivial⟩ T.sa ?_
  refine exc_osa X₄ hx4 hcl (show refsVE (.ref C :: bm) = true from hbm) rfl T.noN (fun h₅ tk₅ dx k₅ dn dne hx₅ hn₅ => ?_)
  exact wpAt_of_wpAny (wpAny_execs_nil (hq h₅ tk₅ dx t4 ⟨fun b o hb e => k₅ b o hb (k4 b o hb (k₃ _ _ (k₂ _ _ (k b o e)))), hx₅, Nat.le_trans (Nat.le_of_lt hn₄.lt) dn, dne, hn₅⟩))
theorem sup_made (T : SupTxt prog K C fI f qual) {v : Value} (X : K.In s.heap) (G : s.heap.Ns mainGlobals mg) (hmg : mg "super" = none) (Bn : s.heap.Ns builtinsNs mb) (hmb : mb "super" = some (.type "super")) (hlim : s.heap.NoLimit) (hroom : A.depth + 1 < recursionLimit)
    (hq : ∀ h' tk e d, OwnMade s.heap h' e C d f v → R (.ok (.ret (.ref e))) { s with heap := h', toks := tk }) :
    codeAny (model prog w) A (.call (.ref C) ⟨[v], []⟩) R s := by
  obtain ⟨nm, q, N, bs, bm, sn, sub, ab, col, dd, k0, k1, k2, k3, k5, hC, hbm⟩ := T.cls
  obtain ⟨hp, g, dr, tk, os⟩ := s
  have k : ∀ b o, hp.get? b = some o → ((hp.push (kdv_tup [v])).push (excO C hp.objs.size)).get? b = some o := fun b o e => Heap.get?_push_of_some _ (Heap.get?_push_of_some _ e)
  have hget : ((hp.push (kdv_tup [v])).push (excO C hp.objs.size)).get? (hp.objs.size + 1) = some (excO C hp.objs.size) := by heap_get
  have hnx : K.lookup (hp.objs.size + 1) = none := by
    cases e : K.lookup (hp.objs.size + 1) with
    | none => rfl
    | some o =>
      have z : hp.get? (hp.objs.size + 1) = some o := X _ _ e
      exact absurd (Nat.lt_of_succ_lt (Heap.lt_size z)) (Nat.lt_irrefl _)
  refine call_own F.excBase_ValueError (fun X => refsVE_contains X bm hbm) (X _ _ hC) (looks_findIn X T.iC) (fun self => bind_fn X self T.tC) (one_size v) ?_
  refine sup_init (s := ⟨(hp.push (kdv_tup [v])).push (excO C hp.objs.size), g, dr, tk, os⟩) T (X.keeps k) (G.keeps k) hmg (Bn.keeps k) hmb (hlim.keeps k) hget hnx ?_ fun h' tk' dx t1 ⟨k', hx, dn, dne, hns⟩ => ?_
  · show A.depth + 1 < recursionLimit
    exact hroom
  · have old : ∀ b o, hp.get? b = some o → h'.get? b = some o := fun b o e => k' b o (Nat.ne_of_lt (Nat.lt_succ_of_lt (Heap.lt_size e))) (k b o e)
    have z : hp.objs.size + 1 + 1 ≤ dx := by
      first
        | (simpa only [Heap.size_push] using dn)
        | exact dn
        | (have q := dn; rw [Heap.size_push, Heap.size_push] at q; exact q)
    exact ⟨rfl, hq h' tk' (hp.objs.size + 1) dx ⟨old, Nat.le_succ _, ⟨_, _, hx, rfl, rfl, rfl, rfl, rfl⟩, Nat.le_trans (Nat.le_trans (Nat.le_succ _) (Nat.le_succ _)) z, dne, hns⟩⟩
end
end SupX
end PySem
namespace L2
open PySem PySem.Spec PyProof.Rows
theorem relO_one {v : V} {v' : Value} (r : RelV v v') (g f : Str) : RelO (List.lookup f [((g : Str), v)]) (if f = g then some v' else none) := by
  by_cases hw : f = g
  · subst hw
    rw [if_pos rfl]
    have q : List.lookup f [((f : Str), v)] = some v := by simp [List.lookup]
    rw [q]
    exact r
  · rw [if_neg hw]
    have e3 : (f == g) = false := by simpa using hw
    have q2 : List.lookup f [((g : Str), v)] = none := by simp [List.lookup, e3]
    rw [q2]
    trivial
section
variable {X : Cx} {C fI : Addr} {f qual : Str}
/-- C(e) -/
def tMkSup (C : Addr) (f : Str) (ta : TA) : St → Hp → XK → Prop := fun σ H Q => ta σ H fun vs H1 => ∃ v, vs = [v] ∧ ∀ d, H1 d = none → Q (.ref C) (some d) (upd H1 d (.xd [(f, v)]))
theorem pmk_sup {a : Expr} {ta : TA} {p pos : Pos} {k : Nat} {x : Str} (T : PySem.SupX.SupTxt X.prog X.K C fI f qual) (gS : X.mg "super" = none) (gC : X.mg x = some (.ref C)) (hr : Room k X.A) (ha : PA X [a] ta) (hg : Gl X x)
    (hdb : (x == ("__debug__" : Str)) = false := by decide)
    (he : starEach (a :: []) X.env = (false, eval a X.env) :: starEach [] X.env := by rfl) (hpl : (backTo pos (starEach [] X.env)).any (·.1) = false := by rfl) :
    PMk X (.Call (.Name x p) [a] [] pos) (tMkSup C f ta) := by
  intro pins s σ H Q I h
  refine wpAny_Call_Name_kw (ld_glob I hg gC ?_ hdb)
  refine PySem.W.callWith_K (h₀ := X.base) I.ok.mod.kin T.kC (thn (ha.run pos pins s σ H _ I h) fun us s1 hh => ?_) he hpl
  obtain ⟨vs, H1, I1, r1, v, ev, q1⟩ := hh
  subst ev
  refine ⟨I1.kIn, ?_⟩
  cases r1 with
  | cons rv rn =>
    rename_i v' us'
    cases rn
    show wpAny _ _ (call (.ref C) [v']) _ _ _
    have hlim := I1.nolimit
    obtain ⟨mb, hb1, hb2⟩ := I1.mod.blt
    have hbk := I1.bk
    obtain ⟨hp, g, dr, tk, os⟩ := s1
    refine wpAny_call (PySem.SupX.sup_made T I1.kIn (I1.mod.glob.keeps hbk) gS (hb1.keeps hbk) ((hb2 _ (by decide)).trans (by decide +kernel)) hlim (by have := hr.dp; omega) fun h' tk' e d M => ?_)
    show MkP X pins σ Q (.ref e) ⟨h', g, dr, tk', os⟩
    obtain ⟨oe, fv, hoe, hc, hd, hdat, h1, _⟩ := M.obj
    have hns := M.ns
    obtain ⟨G', g1, g2⟩ := restrict h' fun b => decide (b ≠ e)
    have gk : ∀ b, b ≠ e → G'.get? b = h'.get? b := fun b hb => g1 b (decide_eq_true hb)
    have ge : G'.get? e = none := g2 e (by simp)
    have old : ∀ b o, hp.get? b = some o → G'.get? b = some o := fun b o q => (gk b (Nat.ne_of_lt (Nat.lt_of_lt_of_le (Heap.lt_size q) M.new))).trans (M.keep b o q)
    have ob : ObjOk X.prog X.w (upd H1 d (.xd [(f, v)])) G' d (.xd [(f, v)]) :=
      ⟨_, hns.at (fun o q => (gk d M.dne).trans q), fun g => relO_one rv f g⟩
    have J : Inv X pins σ (upd H1 d (.xd [(f, v)])) ⟨G', g, dr, tk', os⟩ := I1.laid (t' := tk') old M.dbig ob
    refine ⟨e, oe, fv, ⟨G', g, dr, tk', os⟩, _, .ref C, some d, rfl, J, fun b o q => ?_, ge, hoe, ⟨hc, hd⟩, hdat, h1, ?_, rfl, I1.bare, raises_own T.exC T.tyC, q1 d (I1.hok.fresh M.dbig)⟩
    · by_cases hb : b = e
      · have q' : G'.get? b = some o := q
        rw [hb, ge] at q'; cases q'
      · exact (gk b hb).symm.trans q
    · rw [upd_ne (Ne.symm M.dne)]
      exact I1.hok.fresh M.new
theorem pmk_supN {a : Expr} {ta : TA} {p pos : Pos} {k : Nat} {x : Str} (T : PySem.SupX.SupTxt X.prog X.K C fI f qual) (gS : X.mg "super" = none) (gC : X.mg x = some (.ref C)) (hr : Room k X.A) (ha : PA X [a] ta) (hg : Gl X x)
    (hdb : (x == ("__debug__" : Str)) = false := by decide)
    (he : starEach (a :: []) X.env = (false, eval a X.env) :: starEach [] X.env := by rfl) (hpl : (backTo pos (starEach [] X.env)).any (·.1) = false := by rfl) :
    L2N.PMk X (.Call (.Name x p) [a] [] pos) (tMkSup C f ta) := by
  intro pins s σ H Q I h
  refine wpAny_Call_Name_kw (ld_glob I hg gC ?_ hdb)
  refine PySem.W.callWith_K (h₀ := X.base) I.ok.mod.kin T.kC (thn (ha.run pos pins s σ H _ I h) fun us s1 hh => ?_) he hpl
  obtain ⟨vs, H1, I1, r1, v, ev, q1⟩ := hh
  subst ev
  refine ⟨I1.kIn, ?_⟩
  cases r1 with
  | cons rv rn =>
    rename_i v' us'
    cases rn
    show wpAny _ _ (call (.ref C) [v']) _ _ _
    have hlim := I1.nolimit
    obtain ⟨mb, hb1, hb2⟩ := I1.mod.blt
    have hbk := I1.bk
    obtain ⟨hp, g, dr, tk, os⟩ := s1
    refine wpAny_call (PySem.SupX.sup_made T I1.kIn (I1.mod.glob.keeps hbk) gS (hb1.keeps hbk) ((hb2 _ (by decide)).trans (by decide +kernel)) hlim (by have := hr.dp; omega) fun h' tk' e d M => ?_)
    show L2N.MkP X pins σ Q (.ref e) ⟨h', g, dr, tk', os⟩
    obtain ⟨oe, fv, hoe, hc, hd, hdat, h1, h2⟩ := M.obj
    have hns := M.ns
    obtain ⟨G', g1, g2⟩ := restrict h' fun b => decide (b ≠ e)
    have gk : ∀ b, b ≠ e → G'.get? b = h'.get? b := fun b hb => g1 b (decide_eq_true hb)
    have ge : G'.get? e = none := g2 e (by simp)
    have old : ∀ b o, hp.get? b = some o → G'.get? b = some o := fun b o q => (gk b (Nat.ne_of_lt (Nat.lt_of_lt_of_le (Heap.lt_size q) M.new))).trans (M.keep b o q)
    have ob : ObjOk X.prog X.w (upd H1 d (.xd [(f, v)])) G' d (.xd [(f, v)]) :=
      ⟨_, hns.at (fun o q => (gk d M.dne).trans q), fun g => relO_one rv f g⟩
    have J : Inv X pins σ (upd H1 d (.xd [(f, v)])) ⟨G', g, dr, tk', os⟩ := I1.laid (t' := tk') old M.dbig ob
    refine ⟨e, oe, fv, ⟨G', g, dr, tk', os⟩, _, .ref C, some d, rfl, J, fun b o q => ?_, ge, hoe, ⟨hc, hd, fun vs e => by
      rw [hdat] at e
      cases e
      exact h2⟩, hdat, h1, ?_, rfl, I1.bare, raises_own T.exC T.tyC, q1 d (I1.hok.fresh M.dbig)⟩
    · by_cases hb : b = e
      · have q' : G'.get? b = some o := q
        rw [hb, ge] at q'; cases q'
      · exact (gk b hb).symm.trans q
    · rw [upd_ne (Ne.symm M.dne)]
      exact I1.hok.fresh M.new
end
end L2
set_option Elab.async false
set_option linter.all false
set_option maxRecDepth 100000
set_option maxHeartbeats 4000000
/-! What a law leans on of the top's end, read off the heap by a walk from the module's names with a bit for each address that was met. -/
namespace HS
open PySem PySem.Spec PyProof.Rows L2 He
/-- the addresses that the work list reaches -/
def walk (g : Addr → Option Obj) : Nat → List Addr → Nat → List Addr → List Addr
  | 0, _, _, acc => acc
  | _ + 1, [], _, acc => acc
  | n + 1, a :: r, seen, acc => match Nat.testBit seen a with
    | true => walk g n r seen acc
    | false => (match g a with
      | some o => walk g n (refsD o ++ r) (Nat.lor seen (Nat.shiftLeft 1 a)) (a :: acc)
      | none => walk g n r (Nat.lor seen (Nat.shiftLeft 1 a)) acc)
/-- the j-th statement of a class's body -/
def clsM (st : Stmt) (j : Nat) : Stmt := match st with
  | .ClassDef _ _ _ b _ _ _ _ _ _ _ => b.getD j (.Pass ⟨0, 0, 0, 0⟩)
  | _ => .Pass ⟨0, 0, 0, 0⟩
/-! ### errors with super().__init__ -/
structure SupD where
  cls : Str
  fld : Str
  qual : Str
  p : PySem.SupX.Ps
abbrev FnS : Type := Option (Str × Str × Arguments × FuncBody × Scope × Addr × Value × Value × Addr)
def supObs (K : PySem.W.Frag) (d : SupD) : FnS := match K.lookup (ma K (ga K d.cls) "__init__") with
  | some ⟨_, _, .func fd, _⟩ => some (fd.name, fd.qualname, fd.params, fd.body, fd.scope, fd.globals, fd.defaults, fd.kwdefaults, fd.builtins)
  | _ => none
def SupD.val (d : SupD) : FnS := some ("__init__", d.qual, PySem.SupX.iA d.fld d.p, .stmts (PySem.SupX.iB d.fld d.p), PySem.SupX.iS d.fld, mainGlobals, .none, .none, builtinsNs)
def clsVE (K : PySem.W.Frag) (C : Addr) : Bool := match K.lookup C with
  | some ⟨.type "type", _, .cls cd, sl⟩ => (match cd.mro, sl.toList with
    | .ref C' :: bm, [_, _, _, _, some (.builtin n), _] => C' == C && n == "ValueError.__new__" && !cd.hasDel && cd.hasDict && PySem.HandSPX.refsVE bm
    | _, _ => false)
  | _ => false
theorem clsVE_ok {K : PySem.W.Frag} {C : Addr} (q : clsVE K C = true) :
    ∃ nm q N bs bm sn sub ab col dd k0 k1 k2 k3 k5, K.lookup C = some (excClassObj nm q C N bs bm true sn sub ab col dd k0 k1 k2 k3 k5 "ValueError.__new__") ∧ PySem.HandSPX.refsVE bm = true := by
  unfold clsVE at q
  split at q
  · rename_i dd cd sl ho
    split at q
    · rename_i C' bm k0 k1 k2 k3 n k5 hm hs
      simp only [Bool.and_eq_true, beq_iff_eq, Bool.not_eq_true'] at q
      obtain ⟨⟨⟨⟨rfl, rfl⟩, hdel⟩, hdc⟩, ht⟩ := q
      obtain ⟨nm, bs, mro, ns, qn, hd, sn, sub, ab, col, del⟩ := cd
      dsimp only at hm hdel hdc
      subst hm hdel hdc
      have hsl : sl = #[k0, k1, k2, k3, some (.builtin "ValueError.__new__"), k5] := by
        obtain ⟨l⟩ := sl
        simp only at hs
        rw [hs]
      subst hsl
      exact ⟨nm, qn, ns, bs, bm, sn, sub, ab, col, dd, k0, k1, k2, k3, k5, ho, ht⟩
    · cases q
  · cases q
def supFn (prog : Program) (K : PySem.W.Frag) (C fI : Addr) (qual : Str) : Bool := match K.lookup fI with
  | some ⟨_, _, .func fd, _⟩ => (match fd.code, fd.closure with
    | .ref cda, [(n, cc)] => decide (n = "__class__") && (PySem.W.codeIn K (.ref cda) qual && ((match K.lookup cda with
      | some ⟨_, _, .fields vs, _⟩ => (match (vs[2]? : Option Value) with
        | some (Value.str file _) => prog.main.file == file
        | _ => false)
      | _ => false) && (match K.lookup cc with
      | some ⟨_, _, .cell (some (.ref D)), _⟩ => decide (D = C)
      | _ => false)))
    | _, _ => false)
  | _ => false
def supB (prog : Program) (K : PySem.W.Frag) (d : SupD) : Bool :=
  clsVE K (ga K d.cls) && (eqO (PySem.W.findIn K (.ref (ga K d.cls)) "__setattr__") (some (some (.builtin "object.__setattr__"))) && (eqO (PySem.W.findIn K (.ref (ga K d.cls)) d.fld) (some none) &&
  (eqO (PySem.W.findIn K (.ref (ga K d.cls)) "__init__") (some (some (.ref (ma K (ga K d.cls) "__init__")))) && (decide (PySem.W.typeIn K (.ref (ma K (ga K d.cls) "__init__")) = some (.type "function")) && (PySem.W.keepIn K (.ref (ga K d.cls)) &&
  (decide (PySem.W.subIn K (.ref (ga K d.cls)) (.type "BaseException") = some true) && (decide (PySem.W.subIn K (.ref (ga K d.cls)) (.type "ValueError") = some true) && (decide (PySem.W.typeIn K (.ref (ga K d.cls)) = some (.type "type")) &&
  (PySem.W.hasDictIn K (ga K d.cls) && (decide (PySem.W.mroIn K (ga K d.cls) (.ref (ga K d.cls)) = some true) && (eqO (PySem.W.ks_superIn K (ga K d.cls) (ga K d.cls) "__init__") (some (some (.builtin "ValueError.__init__"))) &&
  (eqO (PySem.W.nsIn K cStatics "thirdparty.any") (some none) && (supFn prog K (ga K d.cls) (ma K (ga K d.cls) "__init__") d.qual && (!(prog.main.scope.names.lookup ("super" : Str)).isSome && (d.p.q3.endLine == d.p.q5.line)))))))))))))))
/-- what of the field's name is decided by itself -/
structure SupN (f : Str) : Prop where
  bnd : PySem.SupX.BindF f
  lkF : (PySem.SupX.iS f).names.lookup f = some .local
  lkK : (PySem.SupX.iS f).names.lookup ("__class__" : Str) = some .free
  lkS : (PySem.SupX.iS f).names.lookup ("super" : Str) = some .globalImplicit
  fS : (f == ("self" : Str)) = false
  fD : (f == ("__debug__" : Str)) = false
theorem sup_ok {prog : Program} {K : PySem.W.Frag} {d : SupD} (n : SupN d.fld) (e : supObs K d = d.val) (c : supB prog K d = true) : PySem.SupX.SupTxt prog K (ga K d.cls) (ma K (ga K d.cls) "__init__") d.fld d.qual := by
  unfold supB at c
  simp only [Bool.and_eq_true] at c
  obtain ⟨c1, c2, c3, c4, c5, c6, c7, c8, c9, c10, c11, c12, c13, c14, c15, c16⟩ := c
  refine ⟨clsVE_ok c1, eqO_ok c2, eqO_ok c3, eqO_ok c4, of_decide_eq_true c5, c6, of_decide_eq_true c7, of_decide_eq_true c8, of_decide_eq_true c9, c10, of_decide_eq_true c11, eqO_ok c12, eqO_ok c13, n.bnd, n.lkF, n.lkK, n.lkS, n.fS, n.fD, ?_⟩
  unfold supFn at c14
  unfold supObs at e
  cases q : K.lookup (ma K (ga K d.cls) "__init__") with
  | none =>
    rw [q] at c14
    cases c14
  | some o =>
    obtain ⟨oc, od, dt, osl⟩ := o
    rw [q] at c14 e
    cases dt with
    | func fd =>
      obtain ⟨n1, n2, n3, n4, n5, n6, n7, n8, n9, n10, n11, n12, n13, n14, n15⟩ := fd
      have e2 : (some (n1, n2, n3, n4, n5, n6, n8, n9, n15) : FnS) = (some ("__init__", d.qual, PySem.SupX.iA d.fld d.p, .stmts (PySem.SupX.iB d.fld d.p), PySem.SupX.iS d.fld, mainGlobals, .none, .none, builtinsNs) : FnS) := e
      simp only [Option.some.injEq, Prod.mk.injEq] at e2
      obtain ⟨h1, h2, h3, h4, h5, h6, h7, h8, h9⟩ := e2
      subst h1 h2 h3 h4 h5 h6 h7 h8 h9
      cases n13 with
      | ref cda =>
        match n7, c14 with
        | [(nm, cc)], c14 =>
          have c17 : (decide (nm = "__class__") && (PySem.W.codeIn K (.ref cda) d.qual && ((match K.lookup cda with
            | some ⟨_, _, .fields vs, _⟩ => (match (vs[2]? : Option Value) with
              | some (Value.str file _) => prog.main.file == file
              | _ => false)
            | _ => false) && (match K.lookup cc with
            | some ⟨_, _, .cell (some (.ref D)), _⟩ => decide (D = ga K d.cls)
            | _ => false)))) = true := c14
          obtain ⟨c18, c19⟩ := ba c17
          obtain ⟨c20, c21⟩ := ba c19
          obtain ⟨c22, c23⟩ := ba c21
          have en := of_decide_eq_true c18
          subst en
          split at c22
          · rename_i ccl cdd vs ccs hcode
            split at c22
            · rename_i file tf hvs
              split at c23
              · rename_i cl cld D csl hcell
                have eD := of_decide_eq_true c23
                subst eD
                exact ⟨oc, od, n10, n11, n12, n14, osl, d.p, cc, cda, ccl, cl, cdd, cld, ccs, csl, vs, file, tf, rfl, c20, c16, hcode, hvs, c22, by simpa using c15, hcell⟩
              · cases c23
            · cases c22
          · cases c22
        | [], c14 => cases c14
        | _ :: _ :: _, c14 => cases c14
      | _ => cases c14
    | _ => cases c14
/-! ### the Hook -/
structure Ask where
  steps : Nat
  fa : List Fa
  fn : List DefD
  sup : List SupD
  more : PySem.W.Frag → Bool := fun _ => true
  dic : List (Str × List Str) := []
abbrev DicO : Type := Option (List (Option (Str × Int)))
abbrev AlS : Type := Bool × List FnW × List FnS × List DicO
def obsK (prog : Program) (q : Ask) (K : PySem.W.Frag) : AlS :=
  ((q.fa.all fun f => f.ok K) && ((q.fn.all fun d => d.ok K) && ((q.sup.all fun d => supB prog K d) && q.more K)), q.fn.map fun d => fnW K d.at_, q.sup.map fun d => supObs K d, q.dic.map fun d => dicW K (ga K d.1))
def valS (q : Ask) (P : Params) : AlS := (true, q.fn.map DefD.val, q.sup.map SupD.val, q.dic.map fun d => some (keysIn P d.2))
def Says (prog : Program) (q : Ask) (P : Params) (K : PySem.W.Frag) : Prop := obsK prog q K = valS q P
def obsG (prog : Program) (q : Ask) (g : Addr → Option Obj) : AlS := obsK prog q (frG g (walk g q.steps [cStatics, mainGlobals] 0 []))
def hook (prog : Program) (q : Ask) : PySem.W.Hook where
  α := AlS
  obs := fun s => obsG prog q s.heap.get?
  val := fun w => valS q w.params
  says := fun w h => ∃ K : PySem.W.Frag, K.In h ∧ Says prog q w.params K
  of := fun _ _ e => ⟨_, frG_in, e⟩
  keeps := fun _ _ _ ⟨K, hK, c⟩ k => ⟨K, PySem.W.Frag.In.keeps hK k, c⟩
theorem obsG_eq {prog : Program} {q : Ask} {g : Addr → Option Obj} {s : Shared} (h : ∀ a, g a = s.heap.get? a) : obsG prog q g = (hook prog q).obs s := by
  have e : g = s.heap.get? := funext h
  rw [e] <;> rfl
section
variable {prog : Program} {q : Ask} {P : Params} {K : PySem.W.Frag}
theorem Says.parts (c : Says prog q P K) : (∀ f ∈ q.fa, f.ok K = true) ∧ (∀ d ∈ q.fn, d.ok K = true) ∧ (∀ d ∈ q.sup, supB prog K d = true) ∧ q.more K = true := by
  have c0 : ((q.fa.all fun f => f.ok K) && ((q.fn.all fun d => d.ok K) && ((q.sup.all fun d => supB prog K d) && q.more K))) = true := congrArg (fun z : AlS => z.1) c
  obtain ⟨c1, c2⟩ := ba c0
  obtain ⟨c3, c4⟩ := ba c2
  obtain ⟨c5, c6⟩ := ba c4
  exact ⟨List.all_eq_true.mp c1, List.all_eq_true.mp c3, List.all_eq_true.mp c5, c6⟩
theorem Says.fact (c : Says prog q P K) {f : Fa} (h : f ∈ q.fa) : f.ok K = true := c.parts.1 f h
theorem map_at {α β : Type} {f g : α → β} : ∀ {l : List α}, l.map f = l.map g → ∀ x ∈ l, f x = g x
  | [], _, x, h => absurd h (by simp)
  | a :: l, e, x, h => by
    have e1 := List.cons.inj e
    rcases List.mem_cons.mp h with rfl | h
    · exact e1.1
    · exact map_at e1.2 x h
theorem Says.def_ (c : Says prog q P K) {d : DefD} (h : d ∈ q.fn) : ∃ fd, FunD K d.name d.qual d.params d.body d.scope (d.dvs K) (d.kws K) (fAd K d.at_) fd :=
  DefD.funD (map_at (congrArg (fun z : AlS => z.2.1) c) d h) (c.parts.2.1 d h)
theorem Says.supd (c : Says prog q P K) {d : SupD} (h : d ∈ q.sup) (n : SupN d.fld) : PySem.SupX.SupTxt prog K (ga K d.cls) (ma K (ga K d.cls) "__init__") d.fld d.qual :=
  sup_ok n (map_at (congrArg (fun z : AlS => z.2.2.1) c) d h) (c.parts.2.2.1 d h)
theorem Says.dict {w : World} (c : Says prog q w.params K) {d : Str × List Str} (h : d ∈ q.dic) : ∃ es n, KDict K w (ga K d.1) es n :=
  dicW_ok (map_at (congrArg (fun z : AlS => z.2.2.2) c) d h)
end
theorem supN_reason : SupN "reason" := ⟨fun _ _ _ _ _ _ _ _ _ _ => rfl, rfl, rfl, rfl, rfl, rfl⟩
theorem supN_at : SupN "at" := ⟨fun _ _ _ _ _ _ _ _ _ _ => rfl, rfl, rfl, rfl, rfl, rfl⟩
end HS
set_option Elab.async false
set_option linter.all false
set_option maxRecDepth 100000
set_option maxHeartbeats 0
namespace K98
open PySem PySem.Spec PyProof.Rows L2
abbrev R : PySem.W.OpenRow := PySem.W.OpenLaw.row PySem.Challenge.rw_characterroads_k98_lines_as_many_as_told
abbrev topS (i : Nat) : Stmt := PySem.Challenge.pw_characterroads_k98_lines_as_many_as_told.main.body.getD i (.Pass ⟨0, 0, 0, 0⟩)
abbrev methS (i j : Nat) : Stmt := HS.clsM (topS i) j
def d__is_line : He.DefD := ⟨("_is_line", none), "_is_line", "_is_line", defArgs (topS 75), defBody (topS 75), defScope (topS 75), [], []⟩
def d__pieces : He.DefD := ⟨("_pieces", none), "_pieces", "_pieces", defArgs (topS 79), defBody (topS 79), defScope (topS 79), [], []⟩
def d__shape : He.DefD := ⟨("_shape", none), "_shape", "_shape", defArgs (topS 80), defBody (topS 80), defScope (topS 80), [], []⟩
def d_read_line : He.DefD := ⟨("read_line", none), "read_line", "read_line", defArgs (topS 84), defBody (topS 84), defScope (topS 84), [], []⟩
def d_Reply___init__ : He.DefD := ⟨("Reply", some "__init__"), "__init__", "Reply.__init__", defArgs (methS 114 0), defBody (methS 114 0), defScope (methS 114 0), [.str ""], []⟩
def d_reply_to : He.DefD := ⟨("reply_to", none), "reply_to", "reply_to", defArgs (topS 117), defBody (topS 117), defScope (topS 117), [], []⟩
def d_Console___init__ : He.DefD := ⟨("Console", some "__init__"), "__init__", "Console.__init__", defArgs (methS 119 0), defBody (methS 119 0), defScope (methS 119 0), [], [("most", .int 200)]⟩
def d_Console___len__ : He.DefD := ⟨("Console", some "__len__"), "__len__", "Console.__len__", defArgs (methS 119 1), defBody (methS 119 1), defScope (methS 119 1), [], []⟩
def d_Console___iter__ : He.DefD := ⟨("Console", some "__iter__"), "__iter__", "Console.__iter__", defArgs (methS 119 2), defBody (methS 119 2), defScope (methS 119 2), [], []⟩
def d_Console_enter : He.DefD := ⟨("Console", some "enter"), "enter", "Console.enter", defArgs (methS 119 3), defBody (methS 119 3), defScope (methS 119 3), [], []⟩
def d_Console_names : He.DefD := ⟨("Console", some "names"), "names", "Console.names", defArgs (methS 119 4), defBody (methS 119 4), defScope (methS 119 4), [], []⟩
def d__law_state : He.DefD := ⟨("_law_state", none), "_law_state", "_law_state", defArgs (topS 121), defBody (topS 121), defScope (topS 121), [], []⟩
def d__law_take : He.DefD := ⟨("_law_take", none), "_law_take", "_law_take", defArgs (topS 122), defBody (topS 122), defScope (topS 122), [], []⟩
def d__law_enter : He.DefD := ⟨("_law_enter", none), "_law_enter", "_law_enter", defArgs (topS 123), defBody (topS 123), defScope (topS 123), [], []⟩
def d_law : He.DefD := ⟨("law", none), "law", "law", defArgs (topS 124), defBody (topS 124), defScope (topS 124), [], []⟩
def fn0 : List He.DefD := [d__is_line, d__pieces, d__shape, d_read_line, d_Reply___init__, d_reply_to, d_Console___init__, d_Console___len__, d_Console___iter__, d_Console_enter, d_Console_names, d__law_state, d__law_take, d__law_enter, d_law]
def fn : List He.DefD := fn0
def fa0 : List He.Fa := [.glo "law", .glo "_law_state", .glo "_law_take", .glo "_law_enter", .glo "Console", .glo "Reply", .glo "Refused", .glo "NoText", .glo "reply_to", .glo "read_line", .glo "_is_line", .glo "_pieces", .glo "_shape", .glo "SHAPES", .free "int", .free "abs", .free "len", .free "isinstance", .free "str", .free "ord"]
def fa1 : List He.Fa := [.free "range", .free "iter", .free "dict", .free "super", .int "MOST_LINE" 2000, .cls "Console", .cls "Reply", .mkr "Console", .mkr "Reply", .noat "Console" "_most", .noat "Console" "_names", .noat "Console" "_entries", .noat "Reply" "kind", .noat "Reply" "text", .meth "Console" "enter", .meth "Console" "names", .meth "Console" "__len__", .meth "Console" "__iter__", .noat "Refused" "reason", .noat "NoText" "at"]
def fa2 : List He.Fa := [.exm "Refused" "Refused" true, .exm "NoText" "NoText" true]
def fa : List He.Fa := fa0 ++ fa1 ++ fa2
def sup : List HS.SupD := [⟨"Refused", "reason", "Refused.__init__", ⟨⟨14, 17, 14, 21⟩, ⟨14, 23, 14, 29⟩, ⟨15, 8, 15, 13⟩, ⟨15, 8, 15, 15⟩, ⟨15, 8, 15, 24⟩, ⟨15, 25, 15, 31⟩, ⟨15, 8, 15, 32⟩, ⟨15, 8, 15, 32⟩, ⟨16, 8, 16, 12⟩, ⟨16, 8, 16, 19⟩, ⟨16, 22, 16, 28⟩, ⟨16, 8, 16, 28⟩⟩⟩,
  ⟨"NoText", "at", "NoText.__init__", ⟨⟨19, 17, 19, 21⟩, ⟨19, 23, 19, 25⟩, ⟨20, 8, 20, 13⟩, ⟨20, 8, 20, 15⟩, ⟨20, 8, 20, 24⟩, ⟨20, 25, 20, 27⟩, ⟨20, 8, 20, 28⟩, ⟨20, 8, 20, 28⟩, ⟨21, 8, 21, 12⟩, ⟨21, 8, 21, 15⟩, ⟨21, 18, 21, 20⟩, ⟨21, 8, 21, 20⟩⟩⟩]
def more (K : PySem.W.Frag) : Bool := xfB K (He.ga K "Refused") && (xfB K (He.ga K "NoText") && He.eqO (PySem.W.nsIn K (He.ga K "SHAPES") "?") (some none))
def dic : List (Str × List Str) := [("SHAPES", ["cycle", "pairs", "classes", "constants", "table", "normal"])]
def ask : HS.Ask := { steps := 20000, fa := fa, fn := fn, sup := sup, more := more, dic := dic }
abbrev hk : PySem.W.Hook := HS.hook R.prog ask
def ob (s : PySem.W.SharedT) : HS.AlS := HS.obsG R.prog ask (HandSHeadRun.getT s)
theorem ob_eq (s : PySem.W.SharedT) : ob s = hk.obs s.abs := HS.obsG_eq (HandSHeadRun.getT_eq s)
def names0 : List PySem.Str := ["_wall", "Fault", "ZeroDivisor", "Malformed", "Refused", "NoText", "is_integer", "common", "multiple", "prime_powers", "is_prime", "divisors", "root_floor", "power_modulo", "inverse_modulo", "prime_above", "MOST", "spread", "divided"]
def names1 : List PySem.Str := ["cyclotomic", "folded", "lowered", "least_form", "head_text", "low_text", "Cyclo", "root", "of_integer", "added", "MOST_POINTS_permutation", "DIGITS_permutation", "_is_integer", "Permutation", "identity", "_point", "read_permutation", "MOST_ORDER", "_checked_rows", "_generators"]
def names2 : List PySem.Str := ["_reached", "_check", "Group", "cyclic", "direct", "_closure", "from_permutations", "classes", "class_numbers", "inverse_classes", "class_sizes", "_matrix", "class_matrix", "class_matrices", "ClassFunction", "kernel", "kernel_normal", "shared", "normal_subgroups", "LETTERS"]
def names3 : List PySem.Str := ["DIGITS_sheet", "SHAPES", "MOST_LINE", "MOST_POINTS_sheet", "MOST_GENERATORS", "_is_line", "is_word", "_name", "_number", "_pieces", "_shape", "_value", "_permutations", "_defined", "read_line", "table_text", "reduced", "cleared", "kernel_modular", "times"]
def names4 : List PySem.Str := ["before", "prime_of", "root_of", "modulo", "parts", "normalised", "split", "modular_rows", "inverse_sum", "degree_of", "modular_character", "values_at", "multiplicities", "lifted", "characters", "CharacterTable", "row_key", "character_table", "Reply", "_joined"]
def names5 : List PySem.Str := ["_plain", "reply_to", "Console", "_law_state", "_law_take", "_law_enter"]
def names : List PySem.Str := names0 ++ names1 ++ names2 ++ names3 ++ names4 ++ names5
end K98
set_option Elab.async false
set_option linter.all false
set_option maxRecDepth 100000
set_option maxHeartbeats 0
namespace K98
open PySem PySem.Spec PyProof.Rows L2
theorem runF (w : World) : HandSHeadRun.RunEqI R (PySem.W.view R.prog [0, 124]) hk ob 20000 names (w.withFollow "special-get-raises" false) := by
  unfold HandSHeadRun.RunEqI
  kernel_rfl
theorem runT (w : World) : HandSHeadRun.RunEqI R (PySem.W.view R.prog [0, 124]) hk ob 20000 names (w.withFollow "special-get-raises" true) := by
  unfold HandSHeadRun.RunEqI
  kernel_rfl
theorem run (w : World) : HandSHeadRun.RunEqI R (PySem.W.view R.prog [0, 124]) hk ob 20000 names w :=
  PySem.W.byRow2 "special-get-raises" (P := fun w => HandSHeadRun.RunEqI R (PySem.W.view R.prog [0, 124]) hk ob 20000 names w) runF runT w
end K98
set_option Elab.async false
set_option linter.all false
/-! what is never reached -/
namespace L2
open PySem PySem.Spec PyProof.Rows
variable {X : Cx}
theorem pe_never {e : Expr} : PE X e (fun _ _ _ => False) := ⟨fun _ _ _ _ _ _ h => h.elim⟩
theorem pt_never {e : Expr} : PT X e (fun _ _ _ => False) := ⟨fun _ _ _ _ _ _ h => h.elim⟩
theorem pw_never {e : Expr} : PW X e (fun _ _ _ => False) := ⟨fun _ _ _ _ _ _ _ h => h.elim⟩
end L2
set_option Elab.async false
set_option linter.all false
set_option maxRecDepth 100000
set_option maxHeartbeats 4000000
/-! a list comprehension over a range within an except suite; isinstance of the error there; a class called whose __init__ may raise -/
namespace L2H
open PySem PySem.Spec PyProof.Rows L2 HotX
theorem block_pin {X : Cx} {s s' : Shared} {H H' : Hp} {scope : Scope} {ce : Env} {fp : List Addr} {σ σ' : St} {pins : List (Addr × Obj)} {p : Addr × Obj} (I : Inv X pins σ H s) (hp : p ∈ X.pn ++ pins) (hL : s.heap.objs.size ≤ ce.locals) (hS : X.stack = X.env :: X.outer) (hf : X.env.frame = some X.env.locals)
    (J : Inv (X.blk s H scope ce fp) [] σ' H' s') (hH : H' p.1 = none) (hk : s'.heap.get? p.1 = some p.2) : Inv { X.blk s H scope ce fp with pn := [p] } [] σ' H' s' := by
  obtain ⟨g, hn, nl, nf, nc⟩ := I.pin p hp
  refine ⟨⟨J.ok.mod, J.ok.kind, J.ok.glob, J.ok.blt, J.ok.above, J.ok.inj, J.ok.has, J.ok.cab, J.ok.hd, J.ok.frames, J.ok.stk, J.ok.exf, J.ok.bs, J.ok.bsz, J.ok.noex, J.ok.exfs, J.ok.funs, J.ok.frf⟩, J.os, J.bare, J.base, J.loc, J.cell, J.free, J.freeC, fun q hq => ?_, J.hok, J.len⟩
  have e : q = p := by simpa using (show q ∈ [p] ++ ([] : List (Addr × Obj)) from hq)
  subst e
  refine ⟨hk, hH, Nat.ne_of_lt (Nat.lt_of_lt_of_le (Heap.lt_size g) hL), ?_, nc⟩
  show q.1 ∉ frs X.stack
  rw [hS]
  intro hm
  obtain ⟨e, he, z⟩ := List.mem_filterMap.mp hm
  rcases List.mem_cons.mp he with rfl | he
  · rw [hf] at z
    exact nl (Option.some.inj z).symm
  · exact nf (List.mem_filterMap.mpr ⟨e, he, z⟩)
abbrev BH (X : Cx) (s : Shared) (H : Hp) (scope : Scope) (ce : Env) (fp : List Addr) (p : Addr × Obj) : Cx := { X.blk s H scope ce fp with pn := [p] }
section
variable {X : Cx}
theorem lc_coreH {pins : List (Addr × Obj)} {p : Addr × Obj} {s : Shared} {σ : St} {H : Hp} {Q : VK} {elt tg iter : Expr} {ifs : List Expr} {scope : Scope} {own : List (Str × Nat)} {pos pos' : Pos} {wi : TI} {g : TG} {tt : TT} {te : TE} {use : Option (Value → Sem Unit)} {Qf : Value → Shared → Prop}
    (hst : X.stack = X.env :: X.outer) (hfe : X.env.frame = some X.env.locals) (h1 : Hot1 X.A p) (hp : p ∈ X.pn) (hN : X.N.Nodup) (I : Inv X pins σ H s) (hi : PIH X tg iter wi) (ok : BlkOk X.N X.env.scope scope own)
    (hg : ∀ (s : Shared) (H : Hp) (C : Addr) (cl : List (Str × Addr)) (fp : List Addr), PG ({ X.blk s H scope (compEnvC scope cl C X.env) fp with pn := [p] }) tg g) (ht : ∀ (s : Shared) (H : Hp) (C : Addr) (cl : List (Str × Addr)) (fp : List Addr), PTs ({ X.blk s H scope (compEnvC scope cl C X.env) fp with pn := [p] }) ifs tt)
    (he : ∀ (s : Shared) (H : Hp) (C : Addr) (cl : List (Str × Addr)) (fp : List Addr), PE ({ X.blk s H scope (compEnvC scope cl C X.env) fp with pn := [p] }) elt te) (hs : ∀ x, foldedSetIterable iter X.env x = pure x)
    (h : tLc wi g tt te (own.map (·.2)) σ H Q)
    (hRR : ∀ D C s' m H', Inv X pins σ H' s' → Q (.ref D) H' → s'.heap.Ns C m → FpOk X pins H' C → compPost (model X.prog X.w) X.A X.xe use Qf (.ref D) C (.ok .next) s') :
    wpAny (model X.prog X.w) X.A (comprehension (.ListComp elt [⟨tg, iter, ifs, 0⟩] scope pos) scope X.env pos' (newList []) false (eval iter X.env) use) Qf X.xe s := by
  have hfree : ∀ y ∈ scope.names, y.2 = .free → ∃ c, X.env.cells.lookup y.1 = some c := fun y hy e => by
    rcases ok.free y hy e with k | k
    · exact I.ok.has _ (.inl k)
    · exact I.ok.has _ (.inr k)
  refine wpAny_comprehension_free (use := use) rfl hs (closure_ok hfree) ok.kind (fun y hy e => by rw [ok.uniq y hy, e])
    (thn (hi.run pins s σ H _ I h) fun xv s1 hx => thn hx fun itv s2 h2 => ?_)
  obtain ⟨it, fp, tn, J, H2, e, I2, T, st2, f2, q⟩ := h2
  subst e
  refine wpAny_newObj_type (newEnv_comp ?_) (by show 0 ≤ sizeLine; decide)
  generalize hD : s2.heap.objs.size = D
  have hDn : H2 D = none := I2.hok.fresh (Nat.le_of_eq hD)
  obtain ⟨W, ⟨m0, w0⟩, turn⟩ := q D hDn
  -- the new list
  generalize hs3 : ({ s2 with heap := s2.heap.push { cls := .type "list", data := .seq ([] : List Value).toArray } } : Shared) = s3
  have I3 : Inv X pins σ (upd H2 D (.lst [])) s3 := by
    rw [← hs3]
    refine I2.laid (t' := s2.toks) (fun b o e => Heap.get?_push_of_some _ e) (Nat.le_of_eq hD) ⟨Nat.zero_le _, [], 0, .nil, ?_⟩
    rw [← hD]
    exact Heap.get?_push_size _ rfl
  have h3 : s3.heap = s2.heap.push { cls := .type "list", data := .seq ([] : List Value).toArray } := by rw [← hs3]
  have sz : ∀ b ∈ fp, b < s2.heap.objs.size := fun b hb => by
    obtain ⟨o, e, _⟩ := T.obj _ _ st2 b hb
    exact Heap.lt_size e
  have f3 : ∀ b ∈ fp, FpOk X pins (upd H2 D (.lst [])) b ∧ b < s3.heap.objs.size := fun b hb => by
    have hlt := sz b hb
    refine ⟨⟨?_, (f2 b hb).2⟩, by rw [h3, Heap.size_push]; exact Nat.lt_succ_of_lt hlt⟩
    rw [upd_ne (by rw [← hD]; exact Nat.ne_of_lt hlt)]
    exact (f2 b hb).1
  have st3 : tn 0 s3.heap := T.keep _ _ _ st2 fun b _ o e => by rw [h3]; exact Heap.get?_push_of_some _ e
  have I4 := block_pin (p := p) I3 (List.mem_append_left _ hp) (Nat.le_refl _) hst hfe (block_start I3 ok hN f3) (I3.pin p (List.mem_append_left _ hp)).2.1 (pushCells_keeps _ _ _ _ (Heap.get?_push_of_some _ (I3.pin p (List.mem_append_left _ hp)).1))
  have pg := hg s3 (upd H2 D (.lst [])) s3.heap.objs.size (cellsFrom (s3.heap.objs.size + 1) scope.names (cloFrom X.env.cells scope.names [])) fp
  have pt := ht s3 (upd H2 D (.lst [])) s3.heap.objs.size (cellsFrom (s3.heap.objs.size + 1) scope.names (cloFrom X.env.cells scope.names [])) fp
  have pe := he s3 (upd H2 D (.lst [])) s3.heap.objs.size (cellsFrom (s3.heap.objs.size + 1) scope.names (cloFrom X.env.cells scope.names [])) fp
  show codeAny _ _ (.compStart (.ListComp elt [⟨tg, iter, ifs, 0⟩] scope pos) 0 (.ref it) (.ref D) (compEnvC scope (cellsFrom (s3.heap.objs.size + 1) scope.names (cloFrom X.env.cells scope.names [])) s3.heap.objs.size X.env)) (compPost (model X.prog X.w) X.A X.xe use Qf (.ref D) s3.heap.objs.size) { s3 with heap := pushCells (s3.heap.push { cls := .type "dict", data := .dict #[] }) scope.names }
  have nfp : ∀ b ∈ fp, (upd H2 D (.lst [])) b = none := fun b hb => (f3 b hb).1.1
  generalize hce : compEnvC scope (cellsFrom (s3.heap.objs.size + 1) scope.names (cloFrom X.env.cells scope.names [])) s3.heap.objs.size X.env = ce at I4 pg pt pe ⊢
  have cL : ce.locals = s3.heap.objs.size := by subst hce; rfl
  generalize hH3 : upd H2 D (.lst []) = H3 at I3 I4 pg pt pe w0 nfp f3
  generalize hs4 : ({ s3 with heap := pushCells (s3.heap.push { cls := .type "dict", data := .dict #[] }) scope.names } : Shared) = s4 at I4 ⊢
  have st4 : tn 0 s4.heap := T.keep _ _ _ st3 fun b _ o e => by rw [← hs4]; exact pushCells_keeps _ _ _ _ (Heap.get?_push_of_some _ e)
  have stat : ∀ {σ' : St} {H' : Hp} {s' : Shared}, Inv (BH X s3 H3 scope ce fp p) [] σ' H' s' → (∀ b ∈ fp, H' b = none) → ∀ b ∈ fp, FpOk (BH X s3 H3 scope ce fp p) [] H' b := fun {σ' H' s'} I' hn b hb =>
    ⟨hn b hb, (I'.ok.exf b hb).1, I'.ok.exfs b hb, .inl hb, fun x c e => (I'.ok.exf b hb).2 x c e, fun q hq => by
      have e : q = p := by simpa using (show q ∈ [p] ++ ([] : List (Addr × Obj)) from hq)
      subst e
      exact (f3 b hb).1.2.2.2.2.2 q (List.mem_append_left _ hp)⟩
  have loop : codeAny (model X.prog X.w) X.A (.compLoop (.ListComp elt [⟨tg, iter, ifs, 0⟩] scope pos) 0 (.ref it) (.ref D) ce) (compPost (model X.prog X.w) X.A X.xe use Qf (.ref D) s3.heap.objs.size) s4 := by
    refine compLoop_any (fun n s' => ∃ i H', Inv (BH X s3 H3 scope ce fp p) [] (wipe σ (own.map (·.2))) H' s' ∧ tn i s'.heap ∧ (∀ b ∈ fp, H' b = none) ∧ W i n H') ?_ m0 ⟨0, H3, I4, st4, nfp, w0⟩
    rintro n s5 ⟨i, H5, I5, st5, n5, w5⟩
    rcases turn i n H5 w5 with ⟨stop, qq⟩ | ⟨go, Nx, hNx, step⟩
    · have td := T.done (BH X s3 H3 scope ce fp p) rfl rfl rfl (⟨p, h1, List.mem_cons_self⟩ : HotC (BH X s3 H3 scope ce fp p)) i [] s5 _ H5 (fun _ _ => False) I5 (stat I5 n5) st5 stop
      refine thnF td fun r s6 ⟨hr, I6⟩ => ?_
      subst hr
      -- back in the def's context
      have I7 : Inv X pins σ H5 s6 := I3.call' (ch := fp) I6.os I6.base I6.hok I6.bare fun b hb => ⟨(f3 b hb).1.2.2.2.1, (f3 b hb).1.2.1, (f3 b hb).1.2.2.2.2.1, (f3 b hb).1.2.2.2.2.2⟩
      have nC : H5 s3.heap.objs.size = none := by
        have z : H5 ce.locals = none := I6.free
        rw [cL] at z
        exact z
      obtain ⟨m, hn, _⟩ := I6.loc
      have hn : s6.heap.Ns ce.locals m := hn
      rw [cL] at hn
      exact hRR D s3.heap.objs.size s6 m H5 I7 qq hn (I3.fpOk (Nat.le_refl _) nC)
    · have ti := T.item (BH X s3 H3 scope ce fp p) rfl rfl rfl (⟨p, h1, List.mem_cons_self⟩ : HotC (BH X s3 H3 scope ce fp p)) i [] s5 _ H5 (fun _ _ => False) I5 (stat I5 n5) st5 go
      refine thnF ti fun r s6 ⟨u, hr, h6⟩ => ?_
      subst hr
      refine thnF h6 fun _ s7 ⟨x, H7, I7, r7, y7, st7, n7⟩ => ?_
      have I7' := I7.pinned (stat I7 n7) (T.obj _ _ st7)
      refine thnF (pg.run _ s7 _ H7 x u _ I7' r7 (step x H7 y7)) fun _ s8 ⟨σ8, H8, I8, hw8, q8⟩ => ?_
      refine thnF (pt.run _ s8 σ8 H8 _ I8 q8) fun b s9 ⟨H9, I9, q9⟩ => ?_
      -- the turn's end
      have fin : ∀ {s' : Shared} {H' : Hp}, Inv (BH X s3 H3 scope ce fp p) ([] ++ pinsAt fp s7.heap) σ8 H' s' → Nx H' → ∃ m, m < n ∧ ∃ i H', Inv (BH X s3 H3 scope ce fp p) [] (wipe σ (own.map (·.2))) H' s' ∧ tn i s'.heap ∧ (∀ b ∈ fp, H' b = none) ∧ W i m H' := fun {s' H'} I' nx => by
        obtain ⟨m', hm, w'⟩ := hNx H' nx
        have pin' : ∀ b ∈ fp, ∀ o, s7.heap.get? b = some o → s'.heap.get? b = some o ∧ H' b = none := fun b hb o e =>
          let z := I'.pin (b, o) (List.mem_append_right _ (List.mem_append_right _ (mem_pinsAt hb e)))
          ⟨z.1, z.2.1⟩
        have hl : (wipe σ (own.map (·.2))).length = σ8.length := by rw [← hw8, wipe_length]
        refine ⟨m', hm, i + 1, H', (I'.unpinned (pins := [])).weak hl (fun j v e => ?_), T.keep _ _ _ st7 fun b hb o e => (pin' b hb o e).1, fun b hb => ?_, w'⟩
        · rw [← hw8] at e
          exact (wipe_some e).1
        · obtain ⟨o, e, _⟩ := T.obj _ _ st7 b hb
          exact (pin' b hb o e).2
      cases b with
      | false =>
        simp only [Bool.false_eq_true, if_false] at q9 ⊢
        exact fin I9 q9
      | true =>
        simp only [if_true] at q9 ⊢
        refine thnF (pe.run _ s9 σ8 H9 _ I9 q9) fun z s10 ⟨yv, H10, I10, r10, acc, hD10, hz10, nx⟩ => ?_
        exact app_ok (X := BH X s3 H3 scope ce fp p) I10 hD10 hz10 r10 fun s11 I11 => fin I11 nx
  exact codeAny_compStart_list loop (T.self X.A 0 _ _ _ st4 loop)
theorem pe_lcH {elt tg iter : Expr} {ifs : List Expr} {scope : Scope} {own : List (Str × Nat)} {pos : Pos} {wi : TI} {g : TG} {tt : TT} {te : TE} {p : Addr × Obj} (hst : X.stack = X.env :: X.outer) (hfe : X.env.frame = some X.env.locals) (h1 : Hot1 X.A p) (hp : p ∈ X.pn) (hN : X.N.Nodup) (hi : PIH X tg iter wi) (ok : BlkOk X.N X.env.scope scope own)
    (hg : ∀ (s : Shared) (H : Hp) (C : Addr) (cl : List (Str × Addr)) (fp : List Addr), PG ({ X.blk s H scope (compEnvC scope cl C X.env) fp with pn := [p] }) tg g) (ht : ∀ (s : Shared) (H : Hp) (C : Addr) (cl : List (Str × Addr)) (fp : List Addr), PTs ({ X.blk s H scope (compEnvC scope cl C X.env) fp with pn := [p] }) ifs tt)
    (he : ∀ (s : Shared) (H : Hp) (C : Addr) (cl : List (Str × Addr)) (fp : List Addr), PE ({ X.blk s H scope (compEnvC scope cl C X.env) fp with pn := [p] }) elt te) (hs : ∀ x, foldedSetIterable iter X.env x = pure x := by intro _; rfl) :
    PE X (.ListComp elt [⟨tg, iter, ifs, 0⟩] scope pos) (tLc wi g tt te (own.map (·.2))) := by
  refine ⟨fun pins s σ H Q I h => ?_⟩
  rw [eval_ListComp]
  refine lc_coreH hst hfe h1 hp hN I hi ok hg ht he hs h fun D C s' m H' I' q hn f => ⟨m, hn, fun h'' sb => ?_⟩
  obtain ⟨f0, f1, f2, f3, f4, f5⟩ := f
  exact ⟨.ref D, H', I'.turned (t' := s'.toks) (fun b o hb e => (sb.2 b hb).trans e) f0 f1 f3 f4 f5, rfl, q⟩
end
end L2H
namespace L2
open PySem PySem.Spec PyProof.Rows
/-- isinstance(e, c), e the exception that the suite holds, of the class D, with or without fields -/
def rIsEX (K : PySem.W.Frag) (a : Addr) (cls : Value) (d : Option Addr) : List V → Hp → VK → Prop := fun xs H Q => ∃ (D : Addr) (c : V) (cv : Value) (b : Bool), cls = .ref D ∧ ExcC K D ∧ xs = [.ref a, c] ∧ (∀ u, RelV c u → u = cv) ∧
  (d = none ∨ ∃ dd fs, d = some dd ∧ H dd = some (.xd fs)) ∧ PySem.W.kitOne K (.ref D) cv = some b ∧ Q (.bl b) H
theorem call_isEX {X : Cx} {a : Addr} {oe : Obj} {cls : Value} {d : Option Addr} {pn : List (Addr × Obj)} (hz : Zc cls d oe) (hf : ∃ vs, oe.data = .fields vs) : CallR (X.suite a ((a, oe) :: pn)) (.builtin "isinstance") (rIsEX X.K a cls d) := by
  intro pins s σ H xs us Q I r h
  obtain ⟨D, c, cv, b, rfl, C, rfl, hcv, hd, e, q⟩ := h
  cases r with
  | cons rx rr =>
    cases rr with
    | cons rt rr =>
      cases rr
      cases rx
      have ec := hcv _ rt
      subst ec
      obtain ⟨hget, _⟩ := I.pin (a, oe) (List.mem_append.mpr (.inl List.mem_cons_self))
      obtain ⟨vs, hv⟩ := hf
      obtain ⟨odx, J⟩ : ∃ odx, PySem.W.InstAt s.heap a oe D odx := by
        rcases hd with rfl | ⟨dd, fs, rfl, ea⟩
        · refine ⟨none, hget, hz.1, by unfold PySem.W.notCls; rw [hv] <;> rfl, ?_⟩
          rw [hz.2] <;> trivial
        · have hx : ObjOk X.prog X.w H s.heap dd (.xd fs) := I.hok dd _ ea
          obtain ⟨mA, hns, hr⟩ := hx
          obtain ⟨od, ho, hl⟩ := lookIn_ns hns
          exact ⟨some od, hget, hz.1, by unfold PySem.W.notCls; rw [hv] <;> rfl, by rw [hz.2]; exact ho⟩
      obtain ⟨cd, hc, _⟩ := PySem.W.any_some C.hd
      exact PySem.W.kia_one (PySem.W.kitx_exc (by rw [hc] <;> rfl) C.hg C.hk C.hs C.ha C.hn C.ht C.hm) I.kIn J e (fun z => nomatch z) fun tk => ⟨.bl b, H, I.kept (t' := tk) fun _ _ z => z, rfl, q⟩
/-! a class called, what may be let out told at the slots -/
section
variable {X : Cx} {CX : CXT} {k : Nat} {f C : Addr} {fd : FuncData} {ps : List Str} {sp : Sp} {E : St → XK} {x : Str} {p pos : Pos} {e : Expr} {es : List Expr} {t : TA} {dvs : List V} {ds : List Value}
theorem passes_at {σ : St} {E : XK} (h : PassesAt CX X σ E) {pins : List (Addr × Obj)} {H : Hp} {s : Shared} {u : Value} {s' : Shared} (I : Inv X pins σ H s) (c : CX X.stack H s E u s') : X.xe u s' := h pins H s u s' I c
theorem run_makeS {pins : List (Addr × Obj)} {σ : St} {H : Hp} {s : Shared} {Q : VK} {us : List Value} {vs : List V} {E : XK} (M : Mk X.K C f) (F : FnOk X.prog X.w X.K X.mg X.base CX k f fd ps sp) (hr : Room (k + 1) X.A) (hb : Binds X.K fd ps ds) (hd : Vals dvs ds)
    (hx : PassesAt CX X σ E) (I : Inv X pins σ H s) (r : Vals vs us)
    (h : ∀ x dx, H x = none → H dx = none → dx ≠ x → sp (.ref x :: (vs ++ dvs)) (upd (upd H dx (.own x)) x (.ins C dx [])) (fun v H2 => v = .non ∧ Q (.ref x) H2) E) :
    wpAny (model X.prog X.w) X.A (call (.ref C) us) (EP X pins σ Q) X.xe s := by
  have hq := h (s.heap.objs.size + 1) s.heap.objs.size (I.hok.fresh (Nat.le_succ _)) (I.hok.fresh (Nat.le_refl _)) (Nat.ne_of_lt (Nat.lt_succ_self _))
  have I2 := Inv.made (C := C) I
  have r2 : Vals (V.ref (s.heap.objs.size + 1) :: (vs ++ dvs)) (Value.ref (s.heap.objs.size + 1) :: (us ++ ds)) := .cons rfl (r.append hd)
  have hl : (Value.ref (s.heap.objs.size + 1) :: us ++ ds).length = ps.length := by
    have e := r2.length
    rw [F.len _ _ _ _ hq] at e
    exact e.symm
  refine wpAny_call (make_map (f := f) I.kIn M.makes M.init (beq_iff_eq.mp M.fn) (codeAny_mono (F.run _ X.stack _ _ ⟨Value.ref (s.heap.objs.size + 1) :: us, []⟩ (Value.ref (s.heap.objs.size + 1) :: (us ++ ds)) _ _ E (hr.make C us [])
    (I2.env0.make C us []) (hb _ (Value.ref (s.heap.objs.size + 1) :: us) I2.kIn hl) r2 hq) fun r s' hq' => ?_))
  cases r with
  | error e => exact hx pins _ _ e s' I2 hq'
  | ok fl =>
    cases fl with
    | ret u =>
      obtain ⟨v, H', I3, rv, ev, q3⟩ := I2.after hq'
      subst ev
      exact ⟨rv, ⟨V.ref (s.heap.objs.size + 1), H', I3, rfl, q3⟩⟩
    | next => exact False.elim hq'
    | brk => exact False.elim hq'
    | cont => exact False.elim hq'
def tMakeS (C : Addr) (sp : Sp) (dvs : List V) (E : St → XK) (t : TA) : TE := fun σ H Q => t σ H fun vs H1 => ∀ x dx, H1 x = none → H1 dx = none → dx ≠ x → sp (.ref x :: (vs ++ dvs)) (upd (upd H1 dx (.own x)) x (.ins C dx [])) (fun v H2 => v = .non ∧ Q (.ref x) H2) (E σ)
theorem pe_makeS (M : Mk X.K C f) (F : FnOk X.prog X.w X.K X.mg X.base CX k f fd ps sp) (hr : Room (k + 1) X.A) (hg : Gl X x) (hm : X.mg x = some (.ref C)) (hb : Binds X.K fd ps ds) (hd : Vals dvs ds) (hx : ∀ σ, PassesAt CX X σ (E σ))
    (ha : PA X (e :: es) t) (hdb : (x == ("__debug__" : Str)) = false := by decide) (he : starEach (e :: es) X.env = (false, eval e X.env) :: starEach es X.env := by rfl) (hpl : (backTo pos (starEach es X.env)).any (·.1) = false := by rfl) :
    PE X (.Call (.Name x p) (e :: es) [] pos) (tMakeS C sp dvs E t) := by
  refine ⟨fun pins s σ H Q I h => ?_⟩
  refine wpAny_Call_Name_kw (ld_glob I hg hm ?_ hdb)
  refine PySem.W.callWith_K (h₀ := X.base) I.ok.mod.kin M.kp (thn (ha.run pos pins s σ H _ I h) fun us s1 ⟨vs, H1, I1, r, q⟩ => ⟨I1.kIn, ?_⟩) he hpl
  exact run_makeS M F hr hb hd (hx σ) I1 r q
end
end L2
set_option Elab.async false
set_option linter.all false
set_option maxRecDepth 100000
set_option maxHeartbeats 4000000
namespace K98
open PySem PySem.Spec PyProof.Rows L2
abbrev FnP (K : PySem.W.Frag) (x : Str) (st : Stmt) (f : Addr) (fd : FuncData) : Prop := FunD K x x (defArgs st) (defBody st) (defScope st) [] [] f fd
section
variable {P : Program} {w : World} {K : PySem.W.Frag} {mg : Str → Option Value} {base : Heap}
abbrev sIsLine : Stmt := topS 75
theorem scIsLine : FnScope ["line", "sign"] ["line"] (defScope sIsLine) := ⟨rfl, rfl, rfl, by decide +kernel, rfl, by decide +kernel, by decide +kernel⟩
def Plain (z : Str) : Prop := z.length ≤ 2000 ∧ ∀ (i : Nat) (c : Nat), z.cps[i]? = some c → 32 ≤ c ∧ c ≤ 126 ∧ c ≠ 37
def spIsLine : Sp := fun vs H Q _ => ∃ z : Str, vs = [.str z] ∧ Plain z ∧ Q (.bl true) H
theorem ok_isline {f : Addr} {fd : FuncData} (F : FnP K "_is_line" sIsLine f fd) (gS : mg "isinstance" = none) (gT : mg "str" = none) (gL : mg "len" = none) (gO : mg "ord" = none) {tm : Tok} (gM : mg "MOST_LINE" = some (.int 2000 tm)) :
    FnOk P w K mg base CX0 1 f fd ["line"] spIsLine := by
  refine F.ok scIsLine (fun vs H Q E h => ?_) (fun cdv A outer s H vs Q E hr h => ?_)
  · obtain ⟨z, rfl, _⟩ := h
    rfl
  refine ⟨_, PSs.nox (pss_cons (ps_if (PW.pt (pw_or (pt_not (pt_val (pe_callB call_isi rfl gS (by decide +kernel) (pa_cons (pv 0) (pa_cons (pe_bltn (v := .ty "str") rfl gT (by decide +kernel) rfl) pa_nil)))))
        (pw_or1 (pt_cmpR op_gt (pe_callB (show CallR _ (.builtin "len") (rLen K) from call_len) rfl gL (by decide +kernel) (pa_cons (pv 0) pa_nil)) (pe_glob (v := .int 2000) rfl gM ⟨_, rfl⟩) (nomark _))))) (pss_one (ps_ret pe_bl)) pss_nil)
      (pss_cons (ps_for PassesOwn.never rfl (pi_str (pv 0)) (pg_name (i := 1) scIsLine.nd rfl (.inl rfl))
        (pss_one (ps_if (PW.pt (pw_or (pt_cmpR op_lt (pe_callB call_ord rfl gO (by decide +kernel) (pa_cons (pv 1) pa_nil)) pe_int (nomark _)) (pw_or (pt_cmpR op_gt (pe_callB call_ord rfl gO (by decide +kernel) (pa_cons (pv 1) pa_nil)) pe_int (nomark _))
          (pw_or1 (pt_cmpR op_eq (pe_callB call_ord rfl gO (by decide +kernel) (pa_cons (pv 1) pa_nil)) pe_int (nomark _)))))) (pss_one (ps_ret pe_bl)) pss_nil)))
      (pss_one (ps_ret pe_bl)))), ?_⟩
  obtain ⟨z, rfl, ⟨hz, hc⟩, hQ⟩ := h
  refine ⟨_, rfl, .str z, .ty "str", .type "str", .type "str", true, rfl, .ty "str", .base (.str z), kit_ty (by decide +kernel), true, rfl, ?_⟩
  refine ⟨_, rfl, .str z, z.length, rfl, ⟨by have : 2000 ≤ sizeLine := by decide
                                             omega, rfl⟩, _, 2000, rfl, rfl, _, rfl, ?_⟩
  rw [decide_eq_false (by omega)]
  refine ⟨_, rfl, z, rfl, for_it walk_str (fun _ σ H' => σ[0]? = some (some (V.str z)) ∧ σ.length = 2 ∧ H' = H) ⟨rfl, rfl, rfl⟩ (fun _ _ _ _ _ => trivial) ?_ ?_⟩
  · rintro i x σ H1 H2 hi ⟨h0, hl, rfl⟩ ⟨rfl, c, e, rfl⟩
    obtain ⟨c1, c2, c3⟩ := hc i c e
    have h1 : (σ.set 1 (some (V.str ⟨#[c]⟩)))[1]? = some (some (V.str ⟨#[c]⟩)) := by
      rw [List.getElem?_set_self (by omega)]
    have g : ((⟨#[c]⟩ : Str).cps.getD 0 0 : Nat) = c := rfl
    refine ⟨_, h1, _, rfl, rfl, _, 32, rfl, rfl, _, rfl, ?_⟩
    rw [decide_eq_false (by omega)]
    refine ⟨_, h1, _, rfl, rfl, _, 126, rfl, rfl, _, rfl, ?_⟩
    rw [decide_eq_false (by omega)]
    refine ⟨_, h1, _, rfl, rfl, rfl, _, rfl, ?_⟩
    rw [decide_eq_false (by intro z; have := V.int.inj z; omega)]
    refine ⟨?_, by rw [List.length_set]; exact hl, rfl⟩
    rw [List.getElem?_set_ne (by decide)]
    exact h0
  · rintro σ H' ⟨_, _, rfl⟩
    exact hQ
end
end K98
set_option Elab.async false
set_option linter.all false
set_option maxRecDepth 100000
set_option maxHeartbeats 4000000
/-! D.get(k, x), D a dict of the module with text keys -/
namespace L2
open PySem PySem.Spec PyProof.Rows
/-- the key isn't there -/
def tKGet2 (K : PySem.W.Frag) (d : Addr) (td ty tx : TE) : TE := fun σ H Q => td σ H fun x H1 => x = .ref d ∧ ty σ H1 fun y H2 => tx σ H2 fun z H3 => ∃ k : Str, y = .str k ∧ PySem.W.nsIn K d k = some none ∧ Q z H3
theorem pe_kget2 {X : Cx} {o e f : Expr} {apos cpos : Pos} {td ty tx : TE} {d : Addr} {es : Array DictEntry} {n : Nat} (D : KDict X.K X.w d es n) (ho : PE X o td) (he : PE X e ty) (hf : PE X f tx) (m : M2 X o "get" apos e f cpos) :
    PE X (.Call (.Attribute o "get" apos) [e, f] [] cpos) (tKGet2 X.K d td ty tx) := by
  refine ⟨fun pins s σ H Q I h => ?_⟩
  refine wpAny_Call_method m.base m.few m.line PySem.F.plainAttrs_dict PySem.F.slot_dict_get PySem.F.type_dict_get (thn (ho.run pins s σ H _ I h) fun u s1 ⟨x, H1, I1, rx, ex, q1⟩ => ?_)
  subst ex
  obtain rfl : u = Value.ref d := rx
  refine ⟨(PySem.W.mapOf_K (prog := X.prog) (w := X.w) I1.kIn D.at_ D.lit).typeIs, fun b q => ?_, ?_⟩
  · cases q
    exact ⟨_, I1.kIn _ _ D.at_, rfl⟩
  rw [m.trees]
  refine Calls.callWith_builtin rfl (Calls.evalArgs_plain (Calls.spliced_cons (thn (he.run pins s1 σ H1 _ I1 q1) fun iv s2 ⟨y, H2, I2, ry, q2⟩ =>
    Calls.spliced_cons (thn (hf.run pins s2 σ H2 _ I2 q2) fun fv s3 ⟨z, H3, I3, rz, k, ey, e, q3⟩ => Calls.spliced_nil ?_))))
  subst ey
  obtain ⟨t, rfl⟩ := ry
  have hm := PySem.W.mapOf_K (prog := X.prog) (w := X.w) I3.kIn D.at_ D.lit
  refine call_meetsIn PySem.F.slot_dict_get hm.typeIs PySem.F.entry_dict_get (PySem.F.args_dict_get_3 _ _ _) (meets_dict_get_default (strKind X.prog X.w) d (strKind_is X.prog X.w k t) D.low fv) ⟨_, hm, ?_⟩
  rw [PySem.W.find_K D.at_ e]
  exact ⟨z, H3, I3.tok _, rz, q3⟩
end L2
set_option Elab.async false
set_option linter.all false
set_option maxRecDepth 100000
set_option maxHeartbeats 4000000
namespace K98
open PySem PySem.Spec PyProof.Rows L2
theorem same_upd {H : Hp} {D : Addr} {o : HO} (h : H D = none) : Same H (upd H D o) := fun b o' e => by rw [upd_ne (ne_of_none e h)]; exact e
theorem Same.trans {H H' H2 : Hp} (h : Same H H') (g : Same H' H2) : Same H H2 := fun b o e => g b o (h b o e)
theorem same_none {H H' : Hp} {D : Addr} (s : Same H H') (h : H' D = none) : H D = none := by
  cases e : H D with
  | none => rfl
  | some o => rw [s _ _ e] at h; cases h
theorem sp1 : Txt.split "" ";" = [("" : Str)] := by decide +kernel
theorem sp2 : Txt.stripChars "" " " = "" := by decide +kernel
theorem sp3 : Txt.lstripChars "" " " = "" := by decide +kernel
section
variable {P : Program} {w : World} {K : PySem.W.Frag} {mg : Str → Option Value} {base : Heap}
abbrev sPieces : Stmt := topS 79
abbrev nPieces : List Str := ["rest", "at", "out", "part"]
theorem scPieces : FnScope nPieces ["rest", "at"] (defScope sPieces) := ⟨rfl, rfl, rfl, by decide +kernel, rfl, by decide +kernel, by decide +kernel⟩
def spPieces : Sp := fun vs H Q _ => ∃ i : Int, vs = [.str "", .int i] ∧ ∀ p x H', Same H H' → H p = none → H' p = some (.lst [x]) → Q (.ref p) H'
theorem ok_pieces {f : Addr} {fd : FuncData} (F : FnP K "_pieces" sPieces f fd) (gL : mg "len" = none) : FnOk P w K mg base CX0 1 f fd ["rest", "at"] spPieces := by
  refine F.ok scPieces (fun vs H Q E h => ?_) (fun cdv A outer s H vs Q E hr h => ?_)
  · obtain ⟨z, rfl, _⟩ := h
    rfl
  refine ⟨_, PSs.nox (pss_cons (ps_set (i := 2) scPieces.nd rfl (.inl rfl) (pe_lst pa_nil))
    (pss_cons (ps_for PassesOwn.never rfl (pi_list (pe_split (pv 0) pe_str)) (pg_name (i := 3) scPieces.nd rfl (.inl rfl))
        (pss_cons (ps_expr (pe_bm PySem.F.plainAttrs_list PySem.F.slot_list_append PySem.F.type_list_append mt_append (pv 2)
            (pa_cons (pe_tup (pa_cons (pe_m1 PySem.F.slot_str_strip PySem.F.type_str_strip mt_stripChars (pv 3) pe_str)
              (pa_cons (pe_op op_sub (pe_op op_add (pv 1) (pe_callB (show CallR _ (.builtin "len") (rLen K) from call_len) rfl gL (by decide +kernel) (pa_cons (pv 3) pa_nil)))
                (pe_callB (show CallR _ (.builtin "len") (rLen K) from call_len) rfl gL (by decide +kernel) (pa_cons (pe_m1 PySem.F.slot_str_lstrip PySem.F.type_str_lstrip mt_lstripChars (pv 3) pe_str) pa_nil))) pa_nil))) pa_nil)))
          (pss_one (ps_set (i := 1) scPieces.nd rfl (.inl rfl) (pe_op op_add (pe_op op_add (pv 1) (pe_callB (show CallR _ (.builtin "len") (rLen K) from call_len) rfl gL (by decide +kernel) (pa_cons (pv 3) pa_nil))) pe_int)))))
      (pss_one (ps_ret (pv 2))))), ?_⟩
  obtain ⟨i, rfl, hQ⟩ := h
  have one : ([] : List V).length < sizeLine := by decide
  refine ⟨by show 0 ≤ sizeLine; decide, fun l hl => ?_⟩
  refine ⟨_, rfl, ⟨_, rfl⟩, "", ";", rfl, rfl, rfl, by show 2 ≤ sizeLine; decide, fun p hp => ?_⟩
  rw [sp1]
  have npl : p ≠ l := fun e => by rw [e, upd_same] at hp; cases hp
  have e0 : Same H (upd (upd H l (.lst [])) p (.lst [V.str ""])) := (same_upd hl).trans (same_upd hp)
  refine ⟨p, rfl, ⟨_, SqL.of upd_same⟩, for_list (K := K) (a := p) (xs := [V.str ""]) (fun n σ H' => H' p = some (.lst [V.str ""]) ∧ ((n = 0 ∧ σ = [some (V.str ""), some (V.int i), some (V.ref l), none] ∧ H' = upd (upd H l (.lst [])) p (.lst [V.str ""])) ∨
      (n = 1 ∧ ∃ x, σ[2]? = some (some (V.ref l)) ∧ Same H H' ∧ H' l = some (.lst [x]))))
    ⟨upd_same, .inl ⟨rfl, rfl, rfl⟩⟩ (fun _ _ _ _ h => SqL.of h.1) ?_ ?_⟩
  · rintro n x σ H' hn ⟨hp', ⟨rfl, rfl, rfl⟩ | ⟨rfl, _⟩⟩
    · obtain rfl : x = V.str "" := (Option.some.inj hn).symm
      refine ⟨_, rfl, .inl ⟨rfl, _, SqL.of (by rw [upd_ne (Ne.symm npl), upd_same])⟩, ?_⟩
      refine ⟨_, rfl, ⟨_, rfl⟩, "", " ", rfl, rfl, by show 0 ≤ sizeLine; decide, ?_⟩
      refine ⟨_, rfl, _, rfl, V.str "", 0, rfl, ⟨by show 0 ≤ sizeLine; decide, rfl⟩, _, _, rfl, rfl, ?_⟩
      refine ⟨_, rfl, ⟨_, rfl⟩, "", " ", rfl, rfl, by show 0 ≤ sizeLine; decide, ?_⟩
      rw [sp3]
      refine ⟨V.str "", 0, rfl, ⟨by show 0 ≤ sizeLine; decide, rfl⟩, _, _, rfl, rfl, ?_⟩
      refine ⟨by show 2 ≤ sizeLine; decide, fun t ht => ?_⟩
      have ntl : l ≠ t := fun e => by rw [← e, upd_ne (Ne.symm npl), upd_same] at ht; cases ht
      have ntp : p ≠ t := fun e => by rw [← e, upd_same] at ht; cases ht
      refine ⟨l, [], _, rfl, rfl, by rw [upd_ne ntl, upd_ne (Ne.symm npl), upd_same], one, ?_⟩
      refine ⟨_, rfl, _, rfl, V.str "", 0, rfl, ⟨by show 0 ≤ sizeLine; decide, rfl⟩, _, _, rfl, rfl, _, _, rfl, rfl, ?_⟩
      refine ⟨by rw [upd_ne npl, upd_ne ntp, upd_same], .inr ⟨rfl, _, rfl, ?_, upd_same⟩⟩
      intro b o e
      have h1 : b ≠ l := ne_of_none e hl
      rw [upd_ne h1]
      exact (e0.trans (same_upd ht)) b o e
    · cases hn
  · rintro σ H' ⟨_, ⟨z, _⟩ | ⟨_, x, h2, hs, hx⟩⟩
    · cases z
    · exact ⟨_, h2, hQ l x H' hs hl hx⟩
end
end K98
set_option Elab.async false
set_option linter.all false
set_option maxRecDepth 100000
set_option maxHeartbeats 4000000
namespace K98
open PySem PySem.Spec PyProof.Rows L2
theorem li1 : Txt.lstripChars "  " " " = "" := by decide +kernel
theorem li2 : Txt.lstripChars "# a" " " = "# a" := by decide +kernel
theorem li3 : Txt.lstripChars "?" " " = "?" := by decide +kernel
theorem sw2 : Txt.startswith "# a" "#" = true := by decide +kernel
theorem sw3 : Txt.startswith "?" "#" = false := by decide +kernel
theorem pa3 : Txt.partition "?" " " = (("?" : Str), ("" : Str), ("" : Str)) := by decide +kernel
theorem plain_of (z : Str) (h1 : (decide (z.length ≤ 2000)) = true) (h2 : (z.cps.toList.all fun c => decide (32 ≤ c ∧ c ≤ 126 ∧ c ≠ 37)) = true) : Plain z := by
  refine ⟨of_decide_eq_true h1, fun i c e => ?_⟩
  have m : c ∈ z.cps.toList := by
    rw [Array.getElem?_eq_some_iff] at e
    obtain ⟨hi, rfl⟩ := e
    simp
  exact of_decide_eq_true (List.all_eq_true.mp h2 c m)
theorem pl0 : Plain "" := plain_of _ (by decide +kernel) (by decide +kernel)
theorem pl1 : Plain "  " := plain_of _ (by decide +kernel) (by decide +kernel)
theorem pl2 : Plain "# a" := plain_of _ (by decide +kernel) (by decide +kernel)
theorem pl3 : Plain "?" := plain_of _ (by decide +kernel) (by decide +kernel)
section
variable {P : Program} {w : World} {K : PySem.W.Frag} {mg : Str → Option Value} {base : Heap}
abbrev sShape : Stmt := topS 80
theorem scShape : FnScope ["word", "many", "shape"] ["word", "many"] (defScope sShape) := ⟨rfl, rfl, rfl, by decide +kernel, rfl, by decide +kernel, by decide +kernel⟩
def spShape (CN : Addr) : Sp := fun vs H Q E => vs = [.str "?", .int 1] ∧ ∀ d, H d = none → E (.ref CN) (some d) (upd H d (.xd [("at", .int 0)]))
theorem ok_shape {f CN fN D : Addr} {fd : FuncData} {es : Array DictEntry} {n : Nat} (F : FnP K "_shape" sShape f fd) (TN : PySem.SupX.SupTxt P K CN fN "at" "NoText.__init__") (gU : mg "super" = none) (gN : mg "NoText" = some (.ref CN)) (gD : mg "SHAPES" = some (.ref D))
    (KD : KDict K w D es n) (hq : PySem.W.nsIn K D "?" = some none) : FnOk P w K mg base (L2N.CX P w) 1 f fd ["word", "many"] (spShape CN) := by
  refine F.ok scShape (fun vs H Q E h => ?_) (fun cdv A outer s H vs Q E hr h => ?_)
  · obtain ⟨rfl, _⟩ := h
    rfl
  refine ⟨_, (pss_cons (ps_if (PW.pt (pw_and (pt_cmpR op_eq (pv 0) pe_str (nomark _)) pw_never)) pss_never pss_nil)
    (pss_cons (ps_if (PW.pt (pw_and (pt_cmpR op_eq (pv 0) pe_str (nomark _)) pw_never)) pss_never pss_nil)
    (pss_cons (ps_set (i := 2) scShape.nd rfl (.inl rfl) (pe_kget2 KD (pe_glob (v := .ref D) rfl gD rfl) (pv 0) pe_str ⟨rfl, rfl, rfl, rfl⟩))
    (pss_cons (ps_if (PW.pt (pw_or (pt_cmpR op_eq (pv 2) pe_str (nomark _)) pw_never)) (pss_one (L2N.ps_raise rfl (L2N.takes_of rfl rfl rfl rfl) (pmk_supN TN gU gN hr (pa_cons pe_int pa_nil) rfl))) pss_nil)
      pss_never)))), ?_⟩
  obtain ⟨rfl, hE⟩ := h
  refine ⟨_, rfl, rfl, _, rfl, ?_⟩
  rw [decide_eq_false (by decide)]
  refine ⟨_, rfl, rfl, _, rfl, ?_⟩
  rw [decide_eq_false (by decide)]
  refine ⟨rfl, _, rfl, "?", rfl, hq, ?_⟩
  refine ⟨_, rfl, rfl, _, rfl, ?_⟩
  exact ⟨_, rfl, hE⟩
abbrev sRead : Stmt := topS 84
abbrev nRead : List Str := ["names", "line", "body", "word", "_", "rest", "pieces", "shape", "found", "groups", "k", "many"]
theorem scRead : FnScope nRead ["names", "line"] (defScope sRead) := ⟨rfl, rfl, rfl, by decide +kernel, rfl, by decide +kernel, by decide +kernel⟩
def isVoid (z : Str) : Prop := z = "" ∨ z = "  " ∨ z = "# a"
def spRead (CN : Addr) : Sp := fun vs H Q E => ∃ (x : V) (z : Str), vs = [x, .str z] ∧
  ((isVoid z ∧ ∀ p H', Same H H' → H p = none → H' p = some (.tup [.str "empty"]) → Q (.ref p) H') ∨ (z = "?" ∧ ∀ d H', Same H H' → H d = none → H' d = some (.xd [("at", .int 0)]) → E (.ref CN) (some d) H'))
theorem ok_read {f CN fN D fL fP fS : Addr} {fd fdL fdP fdS : FuncData} {es : Array DictEntry} {n : Nat} (F : FnP K "read_line" sRead f fd) (FL : FnP K "_is_line" sIsLine fL fdL) (FP : FnP K "_pieces" sPieces fP fdP) (FS : FnP K "_shape" sShape fS fdS)
    (TN : PySem.SupX.SupTxt P K CN fN "at" "NoText.__init__") (gU : mg "super" = none) (gN : mg "NoText" = some (.ref CN)) (gD : mg "SHAPES" = some (.ref D)) (KD : KDict K w D es n) (hq : PySem.W.nsIn K D "?" = some none)
    (gIs : mg "isinstance" = none) (gT : mg "str" = none) (gL : mg "len" = none) (gO : mg "ord" = none) {tm : Tok} (gM : mg "MOST_LINE" = some (.int 2000 tm)) (g1 : mg "_is_line" = some (.ref fL)) (g2 : mg "_pieces" = some (.ref fP)) (g3 : mg "_shape" = some (.ref fS)) :
    FnOk P w K mg base (L2N.CX P w) 2 f fd ["names", "line"] (spRead CN) := by
  have GL : FnOk P w K mg base CX0 1 fL fdL ["line"] spIsLine := ok_isline FL gIs gT gL gO gM
  have GP : FnOk P w K mg base CX0 1 fP fdP ["rest", "at"] spPieces := ok_pieces FP gL
  have GS : FnOk P w K mg base (L2N.CX P w) 1 fS fdS ["word", "many"] (spShape CN) := ok_shape FS TN gU gN gD KD hq
  have bL : Binds K fdL ["line"] [] := FL.bindsN fun _ _ _ _ _ _ us hl => match us, hl with | [_], _ => rfl
  have bP : Binds K fdP ["rest", "at"] [] := FP.bindsN fun _ _ _ _ _ _ us hl => match us, hl with | [_, _], _ => rfl
  have bS : Binds K fdS ["word", "many"] [] := FS.bindsN fun _ _ _ _ _ _ us hl => match us, hl with | [_, _], _ => rfl
  refine F.ok scRead (fun vs H Q E h => ?_) (fun cdv A outer s H vs Q E hr h => ?_)
  · obtain ⟨x, z, rfl, _⟩ := h
    rfl
  refine ⟨_, (pss_cons (ps_if (pt_not (pt_val (pe_call GL hr rfl g1 FL.kp bL .nil pass0 (pa_cons (pv 1) pa_nil)))) pss_never pss_nil)
    (pss_cons (ps_set (i := 2) scRead.nd rfl (.inl rfl) (pe_m1 PySem.F.slot_str_lstrip PySem.F.type_str_lstrip mt_lstripChars (pv 1) pe_str))
    (pss_cons (ps_if (PW.pt (pw_or (pt_cmpR op_eq (pv 2) pe_str (nomark _)) (pw_or1 (pt_val (pe_m1 PySem.F.slot_str_startswith PySem.F.type_str_startswith mt_startswith (pv 2) pe_str))))) (pss_one (ps_ret (pe_tup (pa_cons pe_str pa_nil)))) pss_nil)
    (pss_cons (ps_asg (pe_partition (pv 2) pe_str) (pg_tup rfl (pgs_cons (pg_name (i := 3) scRead.nd rfl (.inl rfl)) (pgs_cons (pg_name (i := 4) scRead.nd rfl (.inl rfl)) (pgs_cons (pg_name (i := 5) scRead.nd rfl (.inl rfl)) pgs_nil)))))
    (pss_cons (ps_set (i := 6) scRead.nd rfl (by first | exact .inl rfl | exact .inr rfl) (pe_call GP hr rfl g2 FP.kp bP .nil pass0 (pa_cons (pv 5) (pa_cons (pe_op op_add (pe_op op_add (pe_op op_sub
          (pe_callB (show CallR _ (.builtin "len") (rLen K) from call_len) rfl gL (by decide +kernel) (pa_cons (pv 1) pa_nil)) (pe_callB (show CallR _ (.builtin "len") (rLen K) from call_len) rfl gL (by decide +kernel) (pa_cons (pv 2) pa_nil)))
          (pe_callB (show CallR _ (.builtin "len") (rLen K) from call_len) rfl gL (by decide +kernel) (pa_cons (pv 3) pa_nil))) pe_int) pa_nil))))
    (pss_cons (ps_set (i := 7) scRead.nd rfl (by first | exact .inl rfl | exact .inr rfl) (pe_callS GS hr rfl g3 FS.kp bS (fun σ => L2N.passAt (L2N.takes_of rfl rfl rfl rfl) σ) (pa_cons (pv 3) (pa_cons (pe_callB (show CallR _ (.builtin "len") (rLen K) from call_len) rfl gL (by decide +kernel) (pa_cons (pv 6) pa_nil)) pa_nil))))
      pss_never)))))), ?_⟩
  obtain ⟨x, z, rfl, h⟩ := h
  rcases h with ⟨hz, hQ⟩ | ⟨rfl, hE⟩
  · rcases hz with rfl | rfl | rfl
    · refine ⟨_, rfl, "", rfl, pl0, true, rfl, ?_⟩
      refine ⟨_, rfl, ⟨_, rfl⟩, "", " ", rfl, rfl, by show 0 ≤ sizeLine; decide, ?_⟩
      rw [sp3]
      refine ⟨_, rfl, rfl, _, rfl, ?_⟩
      exact ⟨by show 1 ≤ sizeLine; decide, fun p hp => hQ p _ (same_upd hp) hp upd_same⟩
    · refine ⟨_, rfl, "  ", rfl, pl1, true, rfl, ?_⟩
      refine ⟨_, rfl, ⟨_, rfl⟩, "  ", " ", rfl, rfl, by show 2 ≤ sizeLine; decide, ?_⟩
      rw [li1]
      refine ⟨_, rfl, rfl, _, rfl, ?_⟩
      exact ⟨by show 1 ≤ sizeLine; decide, fun p hp => hQ p _ (same_upd hp) hp upd_same⟩
    · refine ⟨_, rfl, "# a", rfl, pl2, true, rfl, ?_⟩
      refine ⟨_, rfl, ⟨_, rfl⟩, "# a", " ", rfl, rfl, by show 3 ≤ sizeLine; decide, ?_⟩
      rw [li2]
      refine ⟨_, rfl, rfl, _, rfl, ?_⟩
      rw [decide_eq_false (by decide)]
      refine ⟨_, rfl, ⟨_, rfl⟩, "# a", "#", rfl, rfl, _, rfl, ?_⟩
      rw [sw2]
      exact ⟨by show 1 ≤ sizeLine; decide, fun p hp => hQ p _ (same_upd hp) hp upd_same⟩
  · refine ⟨_, rfl, "?", rfl, pl3, true, rfl, ?_⟩
    refine ⟨_, rfl, ⟨_, rfl⟩, "?", " ", rfl, rfl, by show 1 ≤ sizeLine; decide, ?_⟩
    rw [li3]
    refine ⟨_, rfl, rfl, _, rfl, ?_⟩
    rw [decide_eq_false (by decide)]
    refine ⟨_, rfl, ⟨_, rfl⟩, "?", "#", rfl, rfl, _, rfl, ?_⟩
    rw [sw3]
    refine ⟨_, rfl, ⟨_, rfl⟩, "?", " ", rfl, rfl, rfl, by show 1 ≤ sizeLine; decide, fun p hp => ?_⟩
    rw [pa3]
    refine ⟨p, _, rfl, SqT.of upd_same, rfl, _, _, rfl, _, _, rfl, _, _, rfl, rfl, ?_⟩
    refine ⟨_, rfl, _, rfl, V.str "?", 1, rfl, ⟨by show 1 ≤ sizeLine; decide, rfl⟩, _, rfl, V.str "?", 1, rfl, ⟨by show 1 ≤ sizeLine; decide, rfl⟩, _, _, rfl, rfl, ?_⟩
    refine ⟨_, rfl, V.str "?", 1, rfl, ⟨by show 1 ≤ sizeLine; decide, rfl⟩, _, _, rfl, rfl, _, _, rfl, rfl, ?_⟩
    refine ⟨_, rfl, fun q y H' s1 hq hy => ?_⟩
    refine ⟨_, rfl, _, rfl, V.ref q, 1, rfl, .inl ⟨_, SqL.of hy, rfl⟩, ?_⟩
    refine ⟨rfl, fun d hd => ?_⟩
    have s2 : Same H (upd H' d (.xd [("at", .int 0)])) := (same_upd hp).trans (s1.trans (same_upd hd))
    refine hE d _ s2 (same_none ((same_upd hp).trans s1) hd) upd_same
end
end K98
set_option Elab.async false
set_option linter.all false
set_option maxRecDepth 100000
set_option maxHeartbeats 4000000
/-! a try whose first clause (with a name) takes what flies, more clauses behind it; a class called in an except suite -/
namespace L2N
open PySem PySem.Spec PyProof.Rows L2
def wFirst (K : PySem.W.Frag) (c : Value) (i : Nat) (ts : Addr → Value → Option Addr → TS) (D : Ends) : WX := fun cls d σ H =>
  PySem.W.exmOne K cls c = some true ∧ ∀ a, H a = none → ts a cls d { nx := fun σ' H' => D.nx (σ'.set i none) H', rt := D.rt, bk := fun σ' H' => D.bk (σ'.set i none) H', ct := fun σ' H' => D.ct (σ'.set i none) H' } (σ.set i (some (.ref a))) H
section
variable {X : Cx} {x n : Str} {c : Value} {i : Nat} {body suite : List Stmt} {b₀ : Stmt} {np pos pos' : Pos} {tb : WX → TS} {ts : Addr → Value → Option Addr → TS} {hds : List ExceptHandler}
theorem ps_try_first (hs : X.stack = X.env :: X.outer) (hf : X.env.frame = some X.env.locals) (hN : X.N.Nodup) (hi : X.N[i]? = some n) (hln : X.env.kindOf n = some .local) (hc : Names X x c)
    (hb : ∀ (W : WX) (pn : List (Addr × Obj)) (xe : Value → Shared → Prop), Takes (X.tr pn xe) W → PassesOwn (model X.prog X.w) X.A X.env xe → PSs (X.tr pn xe) body (tb W))
    (hsu : ∀ (a : Addr) (oe : Obj) (cls : Value) (d : Option Addr) (pn : List (Addr × Obj)), Zn cls d oe → (∃ vs, oe.data = .fields vs) → PSs (X.suite a ((a, oe) :: pn)) (b₀ :: suite) (ts a cls d)) :
    PS X (.Try body (.ExceptHandler (some (.Name x np)) (some n) (b₀ :: suite) pos' :: hds) [] [] pos) (fun D σ H => tb (wFirst X.K c i ts D) D σ H) := by
  refine ⟨fun pins s σ H D I h => ?_⟩
  have ok := I.ok
  have hfr : X.A.frames = some (X.env :: X.outer) := by rw [ok.frames, hs]
  have hloc : Loc X.env.scope n := .inl hln
  refine wpAny_Try_except ?_
  refine wpAny_mono ((hb (wFirst X.K c i ts D) (X.pn ++ pins) (fun e s₁ => wpAny (model X.prog X.w) X.A (noteFrame e X.env) (fun _ s₂ => wpAny (model X.prog X.w) X.A (setFlight e none) (fun _ s₃ =>
    wpAny (model X.prog X.w) X.A (handleBy e X.env (.ExceptHandler (some (.Name x np)) (some n) (b₀ :: suite) pos' :: hds)) (SP X pins D) X.xe s₃) X.xe s₂) X.xe s₁) (fun u s' xx => ?_) PassesOwn.looking).run [] s σ H D (I.toTry _) h) (fun f s1 hsp => ?_) (fun e s1 he => he)
  · -- the catch
    obtain ⟨a, B, sI, pins', σ', H', cls, d, rfl, J', nb, up, sky, na, os, ag, hb1, hyes⟩ := xx
    have J : Inv X pins σ' H' sI := J'.ofTry ok
    have sky' : Sky B (X.env :: X.outer) a (Zn cls d) X.env.locals s'.heap := by rw [← hs]; exact sky
    show wpAny (model X.prog X.w) X.A (noteFrame (.ref a) X.env) _ _ _
    refine Sky.land Zn.steady hfr hf sky' fun h3 fl3 up3 => ?_
    have J3 : Inv X pins σ' H' { s' with heap := h3 } := J.landed nb fl3.1 (up.trans up3) os ag
    obtain ⟨oe3, vs3, he3, hz3, hd3⟩ := fl3.there
    have notFr : ∀ {h : Heap} {o : Obj} {vs : Array Value}, h.FunFrames B (X.env :: X.outer) → h.get? a = some o → o.data = .fields vs → a ∉ frs (X.env :: X.outer) := fun {h o vs} ff e dd hm => by
      obtain ⟨_, o', e', hnf⟩ := ff.mem hm
      rw [e] at e'; cases e'
      exact hnf _ dd
    have nfr := notFr fl3.2.2.1 he3 hd3
    have nL : a ≠ X.env.locals := fun z => nfr (List.mem_filterMap.mpr ⟨X.env, List.mem_cons_self, by rw [hf, z]⟩)
    have nF : a ∉ X.fs := fun hm => by
      obtain ⟨e, he, q⟩ := List.mem_filterMap.mp hm
      exact nfr (List.mem_filterMap.mpr ⟨e, List.mem_cons_of_mem _ he, q⟩)
    have S3 := J3.suite he3 hd3 na nL nF
    refine wpAny_handleBy_cons (codeAny_handlers_test ?_) (by intro q; cases q)
    have LT : PySem.W.Looks (model X.prog X.w) h3 (typeOf (.ref a)) cls := fun A Q E s k q => wpAny_typeOf_ref (k _ _ he3) (by rw [hz3.1]; exact q)
    have LM := PySem.W.exm_one (M := model X.prog X.w) (J3.kIn) LT hb1
    have test : ∀ {Q : Value → Shared → Prop} {E : Value → Shared → Prop}, Q c { s' with heap := h3 } → wpAny (model X.prog X.w) (X.A.mark (some (.ref a))) (eval (.Name x np) X.env) Q E { s' with heap := h3 } := fun {Q E} q => by
      obtain ⟨hg, hdbg, hm | ⟨hm, hv, hnn⟩⟩ := hc
      · exact ld_glob (X := X.suite a ((a, oe3) :: (X.pn ++ pins))) S3 hg hm q hdbg
      · exact ld_blt (X := X.suite a ((a, oe3) :: (X.pn ++ pins))) S3 hg hm hv q hnn hdbg
    refine test (LM.here ?_)
    refine codeAny_handlers_suite_as ?_
    refine HandSPX.lands_againZ fl3 fun h4 fl4 up4 => ?_
    have J4 : Inv X pins σ' H' { s' with heap := h4 } := J.landed nb fl4.1 ((up.trans up3).trans up4) os ag
    obtain ⟨oe4, vs4, he4, hz4, hd4⟩ := fl4.there
    have S4 := J4.suite he4 hd4 na nL nF
    refine store_ok (X := X.suite a ((a, oe4) :: (X.pn ++ pins))) (v := .ref a) S4 hN hi hloc rfl (fun s5 S5 => ?_) (.inr hln)
    refine wpAny_mono ((hsu a oe4 cls d (X.pn ++ pins) hz4 ⟨_, hd4⟩).run [] s5 _ H' _ S5 (hyes a na)) (fun f s6 hsp => ?_) (fun _ _ z => False.elim z)
    have end_ : ∀ {σ6 : St} {H6 : Hp} {Q : Shared → Prop}, Inv (X.suite a ((a, oe4) :: (X.pn ++ pins))) [] σ6 H6 s6 → (∀ s7, Inv X pins (σ6.set i none) H6 s7 → Q s7) →
        wpAny (model X.prog X.w) X.A (do bindName X.env n .none; unbindBehindTheSuite X.env n pos') (fun _ s7 => Q s7) X.xe s6 := fun {σ6 H6 Q} S6 hq => gone_ok (S6.unsuite ok) hN hi hln hq
    cases f with
    | next =>
      obtain ⟨σ6, H6, S6, q6⟩ := hsp
      exact end_ S6 fun s7 J7 => ⟨_, _, J7, q6⟩
    | brk =>
      obtain ⟨σ6, H6, S6, q6⟩ := hsp
      exact end_ S6 fun s7 J7 => ⟨_, _, J7, q6⟩
    | cont =>
      obtain ⟨σ6, H6, S6, q6⟩ := hsp
      exact end_ S6 fun s7 J7 => ⟨_, _, J7, q6⟩
    | ret u =>
      obtain ⟨v6, σ6, H6, S6, r6, q6⟩ := hsp
      exact end_ S6 fun s7 J7 => ⟨_, _, _, J7, r6, q6⟩
  · cases f with
    | next =>
      obtain ⟨σ', H', J', q⟩ := hsp
      exact wpAny_execs_nil ⟨σ', H', J'.ofTry ok, q⟩
    | brk =>
      obtain ⟨σ', H', J', q⟩ := hsp
      exact ⟨σ', H', J'.ofTry ok, q⟩
    | cont =>
      obtain ⟨σ', H', J', q⟩ := hsp
      exact ⟨σ', H', J'.ofTry ok, q⟩
    | ret u =>
      obtain ⟨v, σ', H', J', r, q⟩ := hsp
      exact ⟨v, σ', H', J'.ofTry ok, r, q⟩
end
end L2N
namespace L2H
open PySem PySem.Spec PyProof.Rows L2 HotX
section
variable {X : Cx} {CX : CXT} {k : Nat} {f C : Addr} {fd : FuncData} {ps : List Str} {sp : Sp} {E : St → XK} {x : Str} {q pos : Pos} {e : Expr} {es : List Expr} {t : TA} {dvs : List V} {ds : List Value}
theorem RoomH.make {A : Around} (r : RoomH (k + 1) A) (C : Addr) (us : List Value) (kw : List (Str × Value)) : RoomH k (A.under (.builtin "type.__call__" ⟨.ref C :: us, kw⟩)) :=
  ⟨by have := r.dp; rw [make_depth]; omega, by have := r.un; rw [make_units]; omega⟩
/-- C(e, ..) where an exception is handled -/
theorem pe_makeH (M : Mk X.K C f) (F : FnH X.prog X.w X.K X.mg X.base CX k f fd ps sp) (hr : RoomH (k + 1) X.A) (hc : HotC X) (hg : Gl X x) (hm : X.mg x = some (.ref C)) (hb : Binds X.K fd ps ds) (hd : Vals dvs ds) (hx : ∀ σ, PassesAt CX X σ (E σ))
    (ha : PA X (e :: es) t) (hdb : (x == ("__debug__" : Str)) = false := by decide) (he : starEach (e :: es) X.env = (false, eval e X.env) :: starEach es X.env := by rfl) (hpl : (backTo pos (starEach es X.env)).any (·.1) = false := by rfl) :
    PE X (.Call (.Name x q) (e :: es) [] pos) (tMakeS C sp dvs E t) := by
  refine ⟨fun pins s σ H Q I h => ?_⟩
  refine wpAny_Call_Name_kw (ld_glob I hg hm ?_ hdb)
  refine PySem.W.callWith_K (h₀ := X.base) I.ok.mod.kin M.kp (thn (ha.run pos pins s σ H _ I h) fun us s1 ⟨vs, H1, I1, r, q1⟩ => ⟨I1.kIn, ?_⟩) he hpl
  obtain ⟨p, hot, hp⟩ := hc
  have q2 := q1 (s1.heap.objs.size + 1) s1.heap.objs.size (I1.hok.fresh (Nat.le_succ _)) (I1.hok.fresh (Nat.le_refl _)) (Nat.ne_of_lt (Nat.lt_succ_self _))
  have I2 := Inv.made (C := C) I1
  have r2 : Vals (V.ref (s1.heap.objs.size + 1) :: (vs ++ dvs)) (Value.ref (s1.heap.objs.size + 1) :: (us ++ ds)) := .cons rfl (r.append hd)
  have hl : (Value.ref (s1.heap.objs.size + 1) :: us ++ ds).length = ps.length := by
    have z := r2.length
    rw [F.len _ _ _ _ q2] at z
    exact z.symm
  have P1 := I2.pin p (List.mem_append_left _ hp)
  have hpin := (⟨P1.1, P1.2.1, fun hm => (List.mem_cons.mp (I2.stkSub p.1 hm)).elim P1.2.2.1 P1.2.2.2.1, P1.2.2.2.2⟩ : PinOk X.stack _ _ p)
  refine wpAny_call (make_map (f := f) I1.kIn M.makes M.init (beq_iff_eq.mp M.fn) (codeAny_mono (F.run _ X.stack _ _ ⟨Value.ref (s1.heap.objs.size + 1) :: us, []⟩ (Value.ref (s1.heap.objs.size + 1) :: (us ++ ds)) _ _ (E σ) p (hr.make C us []) hot hpin
    (I2.env0.make C us []) (hb _ (Value.ref (s1.heap.objs.size + 1) :: us) I2.kIn hl) r2 q2) fun r s' hq' => ?_))
  cases r with
  | error e => exact hx σ pins _ _ e s' I2 hq'
  | ok fl =>
    cases fl with
    | ret u =>
      obtain ⟨v, H', I3, rv, ev, q3⟩ := I2.after hq'
      subst ev
      exact ⟨rv, ⟨V.ref (s1.heap.objs.size + 1), H', I3, rfl, q3⟩⟩
    | next => exact False.elim hq'
    | brk => exact False.elim hq'
    | cont => exact False.elim hq'
theorem FunD.okH {P : Program} {w : World} {K : PySem.W.Frag} {mg : Str → Option Value} {base : Heap} {N : List Str} {y qual : Str} {params : Arguments} {body : List Stmt} {scope : Scope} {dv : List V} {kws : List (Str × V)} (F : FunD K y qual params body scope dv kws f fd) (S : FnScope N ps scope)
    (len : ∀ vs H Q E, sp vs H Q E → vs.length = ps.length)
    (hbody : ∀ (cdv : Value) (A : Around) (outer : List Env) (s : Shared) (H : Hp) (vs : List V) (Q : VK) (E : XK) (p : Addr × Obj), Hot1 A p → RoomH k (A.deeper (envOfC qual scope s.heap.objs.size f cdv)) → sp vs H Q E →
      ∃ t, PSs (cxH CX P w K mg base N qual scope f cdv A outer s H E p) body t ∧ t { nx := fun _ H' => Q .non H', rt := Q } (L2.start N vs) H) : FnH P w K mg base CX (k + 1) f fd ps sp := by
  obtain ⟨oc, od, dV, kV, doc, pm, an, cdv, ct, osl, rfl, lk, hcd, _, _⟩ := F.ex
  exact fn_ofH lk hcd S len fun A outer s H vs Q E p h1 hr hsp => hbody cdv A outer s H vs Q E p h1 hr hsp
end
end L2H
set_option Elab.async false
set_option linter.all false
set_option maxRecDepth 100000
set_option maxHeartbeats 4000000
namespace K98
open PySem PySem.Spec PyProof.Rows L2
section
variable {P : Program} {w : World} {K : PySem.W.Frag} {mg : Str → Option Value} {base : Heap}
abbrev sRep : Stmt := methS 114 0
abbrev nRep : List Str := ["self", "kind", "text"]
theorem scRep : FnScope nRep nRep (defScope sRep) := ⟨rfl, rfl, rfl, by decide +kernel, rfl, by decide +kernel, by decide +kernel⟩
abbrev FnRep (K : PySem.W.Frag) (f : Addr) (fd : FuncData) : Prop := FunD K "__init__" "Reply.__init__" (defArgs sRep) (defBody sRep) (defScope sRep) [.str ""] [] f fd
def spRep (CR : Addr) : Sp := fun vs H Q _ => ∃ (x dx : Addr) (k t : V), vs = [.ref x, k, t] ∧ H x = some (.ins CR dx []) ∧ Q .non (upd H x (.ins CR dx [("kind", k), ("text", t)]))
theorem rep_read {CR : Addr} {vs : List V} {H : Hp} {Q : VK} {E : XK} (c : Cls K CR) (n1 : NoAttr K CR "kind") (n2 : NoAttr K CR "text") (h : spRep CR vs H Q E) :
    tSeq (sFld K (tVar 0) (tVar 1) "kind") (sFld K (tVar 0) (tVar 2) "text") { nx := fun _ H' => Q .non H', rt := Q } (start nRep vs) H := by
  obtain ⟨x, dx, k, t, rfl, hx, hQ⟩ := h
  refine ⟨_, rfl, _, rfl, x, CR, dx, [], rfl, hx, c, n1, by show 0 < 1000; decide, ?_⟩
  refine ⟨_, rfl, _, rfl, x, CR, dx, [("kind", k)], rfl, upd_same, c, n2, by show 1 < 1000; decide, ?_⟩
  rw [upd_upd]
  exact hQ
theorem ok_rep {f CR : Addr} {fd : FuncData} (F : FnRep K f fd) (c : Cls K CR) (n1 : NoAttr K CR "kind") (n2 : NoAttr K CR "text") : FnOk P w K mg base CX0 1 f fd nRep (spRep CR) := by
  refine F.ok scRep (fun vs H Q E h => ?_) (fun cdv A outer s H vs Q E hr h => ⟨_, PSs.nox ?_, rep_read c n1 n2 h⟩)
  · obtain ⟨x, dx, k, t, rfl, _⟩ := h
    rfl
  · exact pss_cons (ps_fld (pv 0) (pv 1) rfl) (pss_one (ps_fld (pv 0) (pv 2) rfl))
theorem ok_repH {f CR : Addr} {fd : FuncData} (F : FnRep K f fd) (c : Cls K CR) (n1 : NoAttr K CR "kind") (n2 : NoAttr K CR "text") : L2H.FnH P w K mg base CX0 1 f fd nRep (spRep CR) := by
  refine L2H.FunD.okH F scRep (fun vs H Q E h => ?_) (fun cdv A outer s H vs Q E p h1 hr h => ⟨_, ?_, rep_read c n1 n2 h⟩)
  · obtain ⟨x, dx, k, t, rfl, _⟩ := h
    rfl
  · exact pss_cons (ps_fld (pv 0) (pv 1) rfl) (pss_one (ps_fld (pv 0) (pv 2) rfl))
abbrev sReply : Stmt := topS 117
abbrev nReply : List Str := ["names", "line", "command", "fault"]
theorem scReply : FnScope nReply ["names", "line"] (defScope sReply) := ⟨rfl, rfl, rfl, by decide +kernel, rfl, by decide +kernel, by decide +kernel⟩
def spReply (CR : Addr) : Sp := fun vs H Q _ => ∃ (x : V) (z : Str), vs = [x, .str z] ∧ (isVoid z ∨ z = "?") ∧
  ∀ (r rdx : Addr) (k : Str) (t : V) H', Same H H' → H' r = some (.ins CR rdx [("kind", .str k), ("text", t)]) → k ≠ "group" → Q (.ref r) H'
theorem ok_reply {f CN CR fN fR fI : Addr} {fd fdR fdI : FuncData} (F : FnP K "reply_to" sReply f fd) (FR : FnP K "read_line" sRead fR fdR) (GR : FnOk P w K mg base (L2N.CX P w) 2 fR fdR ["names", "line"] (spRead CN)) (FI : FnRep K fI fdI) (cR : Cls K CR) (n1 : NoAttr K CR "kind") (n2 : NoAttr K CR "text")
    (MR : Mk K CR fI) (gR : mg "read_line" = some (.ref fR)) (gRep : mg "Reply" = some (.ref CR)) (gN : mg "NoText" = some (.ref CN)) (gT : mg "str" = none) (ex : PySem.W.exmOne K (.ref CN) (.ref CN) = some true) (xf : XfC K CN) (na : PySem.W.findIn K (.ref CN) "at" = some none) :
    FnOk P w K mg base CX0 3 f fd ["names", "line"] (spReply CR) := by
  have GI : FnOk P w K mg base CX0 1 fI fdI nRep (spRep CR) := ok_rep FI cR n1 n2
  have GH : L2H.FnH P w K mg base CX0 1 fI fdI nRep (spRep CR) := ok_repH FI cR n1 n2
  obtain ⟨ds, hds, bI⟩ : ∃ ds, Vals [V.str ""] ds ∧ Binds K fdI nRep ds := FI.binds1 2 0 (by simp) rfl fun _ _ _ _ _ _ _ us its hl hi => match us, its, hl, hi with | [_, _], [_], _, _ => ⟨_, rfl, rfl⟩
  obtain ⟨ds0, hds0, bI0⟩ : ∃ ds, Vals ([] : List V) ds ∧ Binds K fdI nRep ds := FI.binds1 3 1 (by simp) rfl fun _ _ _ _ _ _ _ us its hl hi => match us, its, hl, hi with | [_, _, _], [_], _, _ => ⟨_, rfl, rfl⟩
  have bR : Binds K fdR ["names", "line"] [] := FR.bindsN fun _ _ _ _ _ _ us hl => match us, hl with | [_, _], _ => rfl
  refine F.ok scReply (fun vs H Q E h => ?_) (fun cdv A outer s H vs Q E hr h => ?_)
  · obtain ⟨x, z, rfl, _⟩ := h
    rfl
  have hrH : L2H.RoomH 2 (A.deeper (envOfC "reply_to" (defScope sReply) s.heap.objs.size f cdv)) := L2H.roomH_of hr
  refine ⟨_, (pss_one (L2N.ps_try_first (i := 3) rfl rfl scReply.nd rfl rfl ⟨rfl, rfl, .inl gN⟩
    (fun W pn xe tk _ => pss_cons (ps_set (i := 2) scReply.nd rfl (.inl rfl) (pe_callS GR hr rfl gR FR.kp bR (fun σ => L2N.passAt tk σ) (pa_cons (pv 0) (pa_cons (pv 1) pa_nil))))
      (pss_cons (ps_if (pt_cmpR op_eq (pe_ix (show IxR _ (rIxT K) from ix_tup) (pv 2) pe_int (fun _ _ => rfl)) pe_str (nomark _)) (pss_one (ps_ret (pe_make MR GI hr rfl gRep bI hds pass0 (pa_cons pe_str pa_nil)))) pss_nil) pss_never))
    (fun a oe cls d pn hz hf => pss_one (ps_ret (L2H.pe_makeH MR GH ⟨hrH.dp, hrH.un⟩ (by obtain ⟨vs, e⟩ := hf; exact ⟨(a, oe), ⟨rfl, vs, e, hz.2.2 vs e⟩, List.mem_cons_self⟩) rfl gRep bI0 hds0 (E := fun _ => E0) (fun σ _ _ _ _ _ _ z => z.elim)
      (pa_cons pe_str (pa_cons (pe_op op_add_str pe_str (pe_callTy call_str_int rfl gT (by decide +kernel) (pa_cons (pe_xf xf na hz.zc hf (pv 3)) pa_nil))) pa_nil))))))), ?_⟩
  obtain ⟨x, z, rfl, hz, hQ⟩ := h
  rcases hz with hz | rfl
  · refine ⟨_, rfl, _, rfl, x, z, rfl, .inl ⟨hz, fun p H' s' hp hp' => ?_⟩⟩
    refine ⟨_, rfl, p, _, 0, _, rfl, rfl, SqT.of hp', rfl, rfl, _, rfl, ?_⟩
    rw [decide_eq_true rfl]
    refine fun r rdx hr' hrdx hne => ?_
    have hr2 : (upd H' rdx (.own r)) r = none := by rw [upd_ne (Ne.symm hne)]; exact hr'
    refine ⟨r, rdx, .str "done", .str "", rfl, upd_same, rfl, ?_⟩
    rw [upd_upd]
    exact hQ r rdx "done" _ _ ((s'.trans (same_upd hrdx)).trans (same_upd hr2)) upd_same (by decide)
  · refine ⟨_, rfl, _, rfl, x, _, rfl, .inr ⟨rfl, fun d H' s' hd hd' => ?_⟩⟩
    refine ⟨ex, fun a ha => ?_⟩
    refine ⟨_, rfl, rfl, rfl, d, _, V.int 0, rfl, hd', rfl, 0, rfl, by decide, ?_⟩
    refine ⟨_, _, rfl, rfl, by decide, ?_⟩
    refine fun r rdx hr' hrdx hne => ?_
    have hr2 : (upd H' rdx (.own r)) r = none := by rw [upd_ne (Ne.symm hne)]; exact hr'
    refine ⟨r, rdx, .str "error", _, rfl, upd_same, rfl, ?_⟩
    rw [upd_upd]
    exact hQ r rdx "error" _ _ ((s'.trans (same_upd hrdx)).trans (same_upd hr2)) upd_same (by decide)
end
end K98
set_option Elab.async false
set_option linter.all false
set_option maxRecDepth 100000
set_option maxHeartbeats 4000000
/-! len(o), for x in o of an own class with __len__, with an __iter__ that hands back a list's iterator; != of lists with the same items -/
namespace L2
open PySem PySem.Spec PyProof.Rows
section
variable {X : Cx} {CX : CXT} {k : Nat} {C f : Addr} {fd : FuncData} {ps : List Str} {sp : Sp}
/-! ### a def's promise that may speak of the state at its entry -/
structure FnAt (P : Program) (w : World) (K : PySem.W.Frag) (mg : Str → Option Value) (base : Heap) (CX : CXT) (k : Nat) (f : Addr) (fd : FuncData) (ps : List Str) (sp : Shared → Sp) : Prop where
  len : ∀ s vs H Q E, sp s vs H Q E → vs.length = ps.length
  run : ∀ (A : Around) (outer : List Env) (s : Shared) (H : Hp) (args : Args) (us : List Value) (vs : List V) (Q : VK) (E : XK), Room k A → Env0 P w K mg base A outer s H → BindsTo s fd args (ps.zip us) → Vals vs us → sp s vs H Q E →
    codeAny (model P w) A (.call (.ref f) args) (CR CX outer P w H s Q E) s
theorem FunD.okAt {CX : CXT} {P : Program} {w : World} {K : PySem.W.Frag} {mg : Str → Option Value} {base : Heap} {k : Nat} {f : Addr} {fd : FuncData} {y qual : Str} {params : Arguments} {body : List Stmt} {scope : Scope} {dv : List V} {kws : List (Str × V)} {N ps : List Str} {sp : Shared → Sp}
    (F : FunD K y qual params body scope dv kws f fd) (S : FnScope N ps scope) (len : ∀ s vs H Q E, sp s vs H Q E → vs.length = ps.length)
    (hbody : ∀ (cdv : Value) (A : Around) (outer : List Env) (s : Shared) (H : Hp) (vs : List V) (Q : VK) (E : XK), Room k (A.deeper (envOfC qual scope s.heap.objs.size f cdv)) → sp s vs H Q E →
      ∃ t, PSs (cxOf CX P w K mg base N qual scope f cdv A outer s H E) body t ∧ t { nx := fun _ H' => Q .non H', rt := Q } (start N vs) H) :
    FnAt P w K mg base CX (k + 1) f fd ps sp := by
  obtain ⟨oc, od, dV, kV, doc, pm, an, cdv, ct, osl, rfl, lk, hcd, _, _⟩ := F.ex
  refine ⟨len, fun A outer s H args us vs Q E hr e0 hb r hsp => ?_⟩
  have KX : K.In s.heap := e0.mod.kin.keeps fun b o e => (e0.bs b o e).1
  have hkind : ∀ z ∈ ps.zip us, scope.names.lookup z.1 = some .local ∨ (scope.names.lookup z.1 = some .cell ∧ ((cellsFrom (s.heap.objs.size + 1) scope.names []).lookup z.1).isSome = true) := fun z hz =>
    (S.par z.1 (List.of_mem_zip hz).1).imp (fun q => q) fun q => ⟨q, PySem.W.cellsFrom_some _ _ _ (.inl q)⟩
  refine codeAny_call_function hr.depth (KX _ _ lk) rfl S.co S.gen rfl (PySem.W.codeRec_of KX hcd) (hb _ _ _ _ (wpAny_newFunctionEnv_cells S.kind hkind fun env he s1 x => ?_))
  subst he
  obtain ⟨t, ht, hq⟩ := hbody cdv A outer s H vs Q E (hr.deeper _) hsp
  refine ⟨(e0.mod.nolimit.keeps fun b o e => (e0.bs b o e).1).keeps x.toInCall.keep, codeAny_func (wpAny_mono (ht.run [] s1 (start N vs) H _ (inv_start S hr.hd e0 (len _ _ _ _ _ hsp) r x) hq) (fun fl s' hs => ?_) fun e s' hs => hs)⟩
  cases fl with
  | ret u =>
    obtain ⟨v, σ', H', J, rv, q⟩ := hs
    exact ⟨v, H', J.os, J.bare, J.base, J.hok, rv, q⟩
  | next =>
    obtain ⟨σ', H', J, q⟩ := hs
    exact ⟨V.non, H', J.os, J.bare, J.base, J.hok, rfl, q⟩
  | brk =>
    obtain ⟨_, _, _, q⟩ := hs
    exact False.elim q
  | cont =>
    obtain ⟨_, _, _, q⟩ := hs
    exact False.elim q
/-- what an own __len__ (or __iter__) is -/
structure OwnSp (K : PySem.W.Frag) (C : Addr) (name : Str) (f : Addr) : Prop where
  at_ : PySem.W.findIn K (.ref C) name = some (some (.ref f))
  fn : PySem.W.isFn K (.ref f) = true
theorem run_special {A : Around} {pins : List (Addr × Obj)} {σ : St} {H : Hp} {s : Shared} {a : Addr} {Q : VK} (F : FnOk X.prog X.w X.K X.mg X.base CX k f fd ps sp) (hr : Room k A) (hfr : A.frames = X.A.frames) (hb : Binds X.K fd ps []) (hx : Passes CX X E0)
    (I : Inv X pins σ H s) (h : sp [.ref a] H Q E0) : wpAny (model X.prog X.w) A (call (.ref f) [.ref a]) (EP X pins σ Q) X.xe s := by
  have e0 : Env0 X.prog X.w X.K X.mg X.base A X.stack s H := by
    have e := I.env0
    exact ⟨by rw [hfr]; exact e.frames, e.mod, e.bs, e.bsz, e.funs, e.frf, e.hok, e.bare⟩
  have hl := F.len _ _ _ _ h
  have r2 : Vals [V.ref a] [Value.ref a] := .cons rfl .nil
  refine wpAny_call (codeAny_mono (F.run A X.stack s H ⟨[.ref a], []⟩ [.ref a] [.ref a] Q E0 hr e0 (by
    have := hb s [.ref a] I.kIn (by simpa using hl)
    simpa using this) r2 h) fun r s' hq => ?_)
  cases r with
  | error e => exact hx pins σ H s e s' I hq
  | ok fl =>
    cases fl with
    | ret u => exact I.after hq
    | next => exact False.elim hq
    | brk => exact False.elim hq
    | cont => exact False.elim hq
/-- len(o) -/
def rLenO (C : Addr) (sp : Sp) : List V → Hp → VK → Prop := fun xs H Q => ∃ (a dx : Addr) (fs : List (Str × V)), xs = [.ref a] ∧ H a = some (.ins C dx fs) ∧ sp [.ref a] H (fun v H1 => ∃ n : Nat, v = .int n ∧ n < 2 ^ 62 ∧ Q (.int n) H1) E0
theorem call_lenO (O : OwnSp X.K C "__len__" f) (F : FnOk X.prog X.w X.K X.mg X.base CX k f fd ps sp) (hr : Room (k + 1) X.A) (hb : Binds X.K fd ps []) (hx : Passes CX X E0) : CallR X (.builtin "len") (rLenO C sp) := by
  intro pins s σ H xs us Q I r h
  obtain ⟨a, dx, fs, rfl, ha, h⟩ := h
  obtain ⟨u, rfl, ru⟩ := vals1 r
  cases ru
  obtain ⟨mA, J, _⟩ := ins_get I.hok ha
  obtain ⟨od, J, _⟩ := J.look
  refine Calls.call_function_entry kind_len plain_len entry_len (args_len1 _) ?_
  unfold Builtin.«len»
  refine wpAny_bind (m := oneArg "len" _) (wpAny_pure ?_)
  refine wpAny_bind (m := callSpecial? (.ref a) (Str.ofString "__len__")) (PySem.W.special_fn I.kIn J O.at_ (beq_iff_eq.mp O.fn) (thn (run_special (A := X.A.in1) F hr.in1 rfl hb hx I h) fun v s1 ⟨y, H1, I1, ry, n, ey, hn, q⟩ => ?_))
  subst ey
  obtain ⟨t, rfl⟩ := ry
  refine wpAny_bind (wpAny_holding (wpAny_pure ?_))
  refine wpAny_bind (wpAny_letGo ?_)
  show wpAny _ _ (if ((n : Nat) : Int) < 0 then _ else _) _ _ _
  rw [if_neg (by omega)]
  show wpAny _ _ (if ((n : Nat) : Int) ≥ 2 ^ 63 then _ else _) _ _ _
  rw [if_neg (by omega)]
  exact wpAny_bind (wpAny_mkInt (wpAny_pure ⟨_, rfl, .int n, H1, I1.tok _, ⟨_, rfl⟩, q⟩))
/-- an __iter__ that hands back iter(o.g), g a list -/
def spIter (C : Addr) (g : Str) (K : PySem.W.Frag) : Shared → Sp := fun s vs H Q _ => ∃ (a dx l : Addr) (fs : List (Str × V)) (zs : List V), vs = [.ref a] ∧ H a = some (.ins C dx fs) ∧ fs.lookup g = some (.ref l) ∧ SqL K H l zs ∧
  ∀ it, H it = none → s.heap.objs.size ≤ it → Q (.ref it) (upd H it (ItO l it 0))
/-- for x in o -/
def iOwn (K : PySem.W.Frag) (C : Addr) (g : Str) (te : TE) : TI := fun σ H R => te σ H fun x H1 => ∃ (a dx l : Addr) (fs : List (Str × V)) (zs : List V), x = .ref a ∧ H1 a = some (.ins C dx fs) ∧ fs.lookup g = some (.ref l) ∧ SqL K H1 l zs ∧ R (ItX.ItlF K l 0) H1
theorem pi_own {tg e : Expr} {te : TE} {g : Str} (he : PE X e te) (O : OwnSp X.K C "__iter__" f) (F : FnAt X.prog X.w X.K X.mg X.base CX k f fd ps (spIter C g X.K)) (hr : Room k X.A) (hb : Binds X.K fd ps []) (hx : Passes CX X E0) :
    PI X tg e (iOwn X.K C g te) := by
  refine ⟨fun pins s σ H R I h => ?_⟩
  refine thn (he.run pins s σ H _ I h) fun u s1 ⟨x, H1, I1, r1, a, dx, l, fs, zs, ex, ha, hg, hz, q⟩ => ?_
  subst ex
  obtain rfl : u = Value.ref a := r1
  obtain ⟨mA, J, _⟩ := ins_get I1.hok ha
  obtain ⟨od, J, _⟩ := J.look
  obtain ⟨m, hF⟩ := I1.fr
  have hsp : spIter C g X.K s1 [.ref a] H1 (fun v H2 => ∃ it, v = .ref it ∧ H1 it = none ∧ X.s_0.heap.objs.size ≤ it ∧ H2 = upd H1 it (ItO l it 0)) E0 :=
    ⟨a, dx, l, fs, zs, rfl, ha, hg, hz, fun it h1 h2 => ⟨it, rfl, h1, Nat.le_trans I1.sz h2, rfl⟩⟩
  have hl := F.len _ _ _ _ _ hsp
  have r2 : Vals [V.ref a] [Value.ref a] := .cons rfl .nil
  have call_ : wpAny (model X.prog X.w) X.A (call (.ref f) [.ref a]) (EP X pins σ _) X.xe s1 := wpAny_call (codeAny_mono (F.run X.A X.stack s1 H1 ⟨[.ref a], []⟩ [.ref a] [.ref a] _ E0 hr I1.env0 (by
    have := hb s1 [.ref a] I1.kIn (by simpa using hl)
    simpa using this) r2 hsp) fun r s' hq => by
      cases r with
      | error e => exact hx pins σ H1 s1 e s' I1 hq
      | ok fl =>
        cases fl with
        | ret u => exact I1.after hq
        | next => exact False.elim hq
        | brk => exact False.elim hq
        | cont => exact False.elim hq)
  refine PySem.W.owit_iter hF I1.ok.mod.kin J O.at_ O.fn (thn call_ fun v s2 ⟨y, H2, I2, ry, it, ey, h1, hn, eH⟩ => ?_)
  subst ey
  obtain rfl : v = Value.ref it := ry
  have hi : H2 it = some (ItO l it 0) := by rw [eH]; exact upd_same
  have eo := itO_get I2 hi
  have hT : s2.TypeIs (.ref it) "list_iterator" := ⟨_, eo, rfl⟩
  unfold PySem.W.OwitIt
  refine wpAny_specialOf (name := Str.ofString "__next__") hT slot_listiter_next.lookup ?_
  have st : s2.heap.IsListIter it l (0 + 0) := ⟨_, eo, rfl, rfl⟩
  have hi' := hi
  unfold ItO at hi'
  have eD : ItX.dropH H2 it = H1 := by rw [eH]; exact ItX.dropH_upd h1
  refine ⟨it, [it], _, _, ItX.dropH H2 it, rfl, ItX.inv_drop I2 hi', ItX.turn_listF l it 0, st, fun b hb => ?_, by rw [eD]; exact q⟩
  have eb : b = it := by simpa using hb
  rw [eb]
  exact ItX.inv_fp I2 hi hn
/-- != of two lists that hold the same objects -/
def rNeSame (K : PySem.W.Frag) : R2 := fun x y H Q => ∃ (a b : Addr) (ps : List Addr), x = .ref a ∧ y = .ref b ∧ SqL K H a (ps.map V.ref) ∧ SqL K H b (ps.map V.ref) ∧ Q (.bl false) H
theorem vals_refs : ∀ {ps : List Addr} {us : List Value}, Vals (ps.map V.ref) us → us = ps.map Value.ref
  | [], _, .nil => rfl
  | p :: ps, _, .cons r t => by
    have e : _ = Value.ref p := r
    rw [e, vals_refs t]
    rfl
theorem op_neSame (hu : X.A.units < cLine) : OpR X (compareOp .NotEq) (rNeSame X.K) := by
  intro pins s σ H x y v u Q I rx ry h
  obtain ⟨a, b, ps, rfl, rfl, ha, hb, q⟩ := h
  cases rx
  cases ry
  obtain ⟨its, rv, pl, _⟩ := I.list ha
  obtain ⟨its2, rv2, pl2, _⟩ := I.list hb
  have e1 := vals_refs rv
  have e2 := vals_refs rv2
  rw [e1] at pl
  rw [e2] at pl2
  refine SeqAt.RcNeAt.lists (e := fun _ => true) pl.isList pl2.isList rfl hu (fun j h1 h2 => SeqAt.EqAt.same _) X.prog X.w X.xe _ ⟨.bl false, H, I, ?_, q⟩
  show Value.bool _ = Value.bool false
  rw [List.all_eq_true.mpr (fun _ _ => rfl)]
  rfl
end
end L2
set_option Elab.async false
set_option linter.all false
set_option maxRecDepth 100000
set_option maxHeartbeats 4000000
namespace K98
open PySem PySem.Spec PyProof.Rows L2
/-- o.m(e, ..), what may be let out told at the slots -/
theorem pe_mthS {X : Cx} {CX : CXT} {k : Nat} {f C : Addr} {fd : FuncData} {ps : List Str} {sp : Sp} {E : L2.St → XK} {m : Str} {pos apos : Pos} {e o : Expr} {es : List Expr} {ta : TE} {t : TA} {pl : Sem Bool} (he : PE X o ta) (c : Cls X.K C) (hm : Meth X.K C m f)
    (F : FnOk X.prog X.w X.K X.mg X.base CX k f fd ps sp) (hr : Room k X.A) (hb : Binds X.K fd ps []) (hx : ∀ σ, PassesAt CX X σ (E σ)) (ha : PA X (e :: es) t)
    (hst : starEach (e :: es) X.env = (false, eval e X.env) :: starEach es X.env := by rfl) (hpl : (backTo pos (starEach es X.env)).any (·.1) = false := by rfl)
    (ht : eval (.Call (.Attribute o m apos) (e :: es) [] pos) X.env = (do
      let ov ← eval o X.env
      standAt apos.atName
      let (f, first) ← holding [ov] (getMethod ov m pl)
      callWith pos f first (backTo pos (starEach (e :: es) X.env)) (backToKw pos (keywordEach [] X.env))) := by rfl) :
    PE X (.Call (.Attribute o m apos) (e :: es) [] pos) (L2H.tMethH C m sp E ta t) := by
  refine ⟨fun pins s σ H Q I h => PySem.W.methodCall_KW (pl := pl) (thn (he.run pins s σ H _ I h) fun u s1 ⟨x, H1, I1, rx, a, dx, fs, ex, ea, l, q⟩ => ?_) ht⟩
  subst ex
  obtain rfl : u = Value.ref a := rx
  refine getmeth_ok I1 ea c hm l (PySem.W.callWith_K (first := [.ref a]) (h₀ := X.base) I.ok.mod.kin hm.kp (thn (ha.run pos pins s1 σ H1 _ I1 q) fun us s2 ⟨vs, H2, I2, r, q2⟩ => ⟨I2.kIn, ?_⟩) hst hpl)
  exact run_fnS (us := .ref a :: us) (vs := .ref a :: vs) F hr hb (hx σ) I2 (.cons rfl r) q2
section
variable {P : Program} {w : World} {K : PySem.W.Frag} {mg : Str → Option Value} {base : Heap}
structure ConT (K : PySem.W.Frag) (CC : Addr) : Prop where
  cl : Cls K CC
  n1 : NoAttr K CC "_most"
  n2 : NoAttr K CC "_names"
  n3 : NoAttr K CC "_entries"
abbrev cFs (n e : Addr) : List (Str × V) := [("_most", .int 200), ("_names", .ref n), ("_entries", .ref e)]
/-- a console at c -/
structure Con (CC : Addr) (H : Hp) (c n e : Addr) (es : List Addr) : Prop where
  at_ : ∃ dx, H c = some (.ins CC dx (cFs n e))
  nm : H n = some (.dK [])
  en : H e = some (.lst (es.map V.ref))
theorem Con.same {CC : Addr} {H H' : Hp} {c n e : Addr} {es : List Addr} (C : Con CC H c n e es) (s : Same H H') : Con CC H' c n e es :=
  ⟨let ⟨dx, h⟩ := C.at_; ⟨dx, s _ _ h⟩, s _ _ C.nm, s _ _ C.en⟩
/-- all but what stands at e is as it was -/
def But (e : Addr) (H H' : Hp) : Prop := ∀ b o, b ≠ e → H b = some o → H' b = some o
abbrev sCI : Stmt := methS 119 0
theorem scCI : FnScope ["self", "most"] ["self", "most"] (defScope sCI) := ⟨rfl, rfl, rfl, by decide +kernel, rfl, by decide +kernel, by decide +kernel⟩
def spCI (CC : Addr) : Sp := fun vs H Q _ => ∃ (x dx : Addr), vs = [.ref x, .int 200] ∧ H x = some (.ins CC dx []) ∧
  ∀ n e H', H n = none → H e = none → H' x = some (.ins CC dx (cFs n e)) → H' n = some (.dK []) → H' e = some (.lst []) → But x H H' → Q .non H'
theorem ok_ci {f CC : Addr} {fd : FuncData} (F : FunD K "__init__" "Console.__init__" (defArgs sCI) (defBody sCI) (defScope sCI) [] [("most", .int 200)] f fd) (T : ConT K CC) : FnOk P w K mg base CX0 1 f fd ["self", "most"] (spCI CC) := by
  refine F.ok scCI (fun vs H Q E h => ?_) (fun cdv A outer s H vs Q E hr h => ?_)
  · obtain ⟨x, dx, rfl, _⟩ := h
    rfl
  refine ⟨_, PSs.nox (pss_cons (ps_fld (pv 0) (pv 1) rfl) (pss_cons (ps_fld (pv 0) pe_dnewK rfl) (pss_one (ps_fld (pv 0) (pe_lst pa_nil) rfl)))), ?_⟩
  obtain ⟨x, dx, rfl, hx, hQ⟩ := h
  refine ⟨_, rfl, _, rfl, x, CC, dx, [], rfl, hx, T.cl, T.n1, by show 0 < 1000; decide, ?_⟩
  refine fun n hn => ?_
  have nx : n ≠ x := fun e => by rw [e, upd_same] at hn; cases hn
  refine ⟨_, rfl, x, CC, dx, [("_most", V.int 200)], rfl, by rw [upd_ne (Ne.symm nx), upd_same]; rfl, T.cl, T.n2, by show 1 < 1000; decide, ?_⟩
  refine ⟨by show 0 ≤ sizeLine; decide, fun l hl => ?_⟩
  have lx : l ≠ x := fun e => by rw [e, upd_same] at hl; cases hl
  have ln : l ≠ n := fun e => by rw [e, upd_ne nx, upd_same] at hl; cases hl
  refine ⟨_, rfl, x, CC, dx, [("_most", V.int 200), ("_names", V.ref n)], rfl, by rw [upd_ne (Ne.symm lx), upd_same]; rfl, T.cl, T.n3, by show 2 < 1000; decide, ?_⟩
  rw [upd_ne nx] at hn
  rw [upd_ne lx, upd_ne ln, upd_ne lx] at hl
  refine hQ n l _ hn hl upd_same ?_ ?_ ?_
  · rw [upd_ne nx, upd_ne (Ne.symm ln), upd_ne nx, upd_same]
  · rw [upd_ne lx, upd_same]
  · intro b o hb e
    rw [upd_ne hb, upd_ne (ne_of_none e hl), upd_ne hb, upd_ne (ne_of_none e hn), upd_ne hb]
    exact e
abbrev sCL : Stmt := methS 119 1
theorem scCL : FnScope ["self"] ["self"] (defScope sCL) := ⟨rfl, rfl, rfl, by decide +kernel, rfl, by decide +kernel, by decide +kernel⟩
def spCL (CC : Addr) : Sp := fun vs H Q _ => ∃ (c n e : Addr) (es : List Addr), vs = [.ref c] ∧ Con CC H c n e es ∧ Q (.int es.length) H
theorem ok_cl {f CC : Addr} {fd : FuncData} (F : FunD K "__len__" "Console.__len__" (defArgs sCL) (defBody sCL) (defScope sCL) [] [] f fd) (T : ConT K CC) (gL : mg "len" = none) : FnOk P w K mg base CX0 1 f fd ["self"] (spCL CC) := by
  refine F.ok scCL (fun vs H Q E h => ?_) (fun cdv A outer s H vs Q E hr h => ?_)
  · obtain ⟨c, n, e, es, rfl, _⟩ := h
    rfl
  refine ⟨_, PSs.nox (pss_one (ps_ret (pe_callB (show CallR _ (.builtin "len") (rLen K) from call_len) rfl gL (by decide +kernel) (pa_cons (pe_fld (pv 0) rfl) pa_nil)))), ?_⟩
  obtain ⟨c, n, e, es, rfl, ⟨⟨dx, hc⟩, _, he⟩, hQ⟩ := h
  refine ⟨_, rfl, c, CC, dx, _, _, rfl, hc, T.cl, T.n3, rfl, V.ref e, es.length, rfl, .inl ⟨_, SqL.of he, by rw [List.length_map]⟩, hQ⟩
abbrev sCT : Stmt := methS 119 2
theorem scCT : FnScope ["self"] ["self"] (defScope sCT) := ⟨rfl, rfl, rfl, by decide +kernel, rfl, by decide +kernel, by decide +kernel⟩
theorem ok_ct {f CC : Addr} {fd : FuncData} (F : FunD K "__iter__" "Console.__iter__" (defArgs sCT) (defBody sCT) (defScope sCT) [] [] f fd) (T : ConT K CC) (gI : mg "iter" = none) : FnAt P w K mg base CX0 1 f fd ["self"] (spIter CC "_entries" K) := by
  refine FunD.okAt F scCT (fun s vs H Q E h => ?_) (fun cdv A outer s H vs Q E hr h => ?_)
  · obtain ⟨a, dx, l, fs, zs, rfl, _⟩ := h
    rfl
  refine ⟨_, PSs.nox (pss_one (ps_ret (pe_callB (show CallR _ (.builtin "iter") (ItX.rIterN K s.heap.objs.size) from ItX.call_iterN) rfl gI (by decide +kernel) (pa_cons (pe_fld (pv 0) rfl) pa_nil)))), ?_⟩
  obtain ⟨a, dx, l, fs, zs, rfl, ha, hg, hz, hQ⟩ := h
  exact ⟨_, rfl, a, CC, dx, _, _, rfl, ha, T.cl, T.n3, hg, l, zs, rfl, hz, hQ⟩
abbrev sCN : Stmt := methS 119 4
theorem scCN : FnScope ["self"] ["self"] (defScope sCN) := ⟨rfl, rfl, rfl, by decide +kernel, rfl, by decide +kernel, by decide +kernel⟩
def spCN (CC : Addr) : Sp := fun vs H Q _ => ∃ (c n e : Addr) (es : List Addr), vs = [.ref c] ∧ Con CC H c n e es ∧ ∀ p, H p = none → Q (.ref p) (upd H p (.dK []))
theorem ok_cn {f CC : Addr} {fd : FuncData} (F : FunD K "names" "Console.names" (defArgs sCN) (defBody sCN) (defScope sCN) [] [] f fd) (T : ConT K CC) (gD : mg "dict" = none) : FnOk P w K mg base CX0 1 f fd ["self"] (spCN CC) := by
  refine F.ok scCN (fun vs H Q E h => ?_) (fun cdv A outer s H vs Q E hr h => ?_)
  · obtain ⟨c, n, e, es, rfl, _⟩ := h
    rfl
  refine ⟨_, PSs.nox (pss_one (ps_ret (pe_callTy call_dictD rfl gD (by decide +kernel) (pa_cons (pe_fld (pv 0) rfl) pa_nil)))), ?_⟩
  obtain ⟨c, n, e, es, rfl, ⟨⟨dx, hc⟩, hn, _⟩, hQ⟩ := h
  exact ⟨_, rfl, c, CC, dx, _, _, rfl, hc, T.cl, T.n2, rfl, n, [], rfl, .of hn, hQ⟩
abbrev sCE : Stmt := methS 119 3
abbrev nCE : List Str := ["self", "line", "reply", "command"]
theorem scCE : FnScope nCE ["self", "line"] (defScope sCE) := ⟨rfl, rfl, rfl, by decide +kernel, rfl, by decide +kernel, by decide +kernel⟩
def okz (z : Str) : Prop := isVoid z ∨ z = "?"
def spCE (CC CF : Addr) : Sp := fun vs H Q E => ∃ (c n e : Addr) (es : List Addr) (z : Str), vs = [.ref c, .str z] ∧ Con CC H c n e es ∧
  ((200 ≤ es.length ∧ es.length < 1000 ∧ ∀ d, H d = none → E (.ref CF) (some d) (upd H d (.xd [("reason", .str "lines")]))) ∨
    (es.length < 200 ∧ okz z ∧ ∀ t r H', But e H H' → H' e = some (.lst ((es ++ [t]).map V.ref)) → Q (.ref r) H'))
theorem ok_ce {f CC CR CF fF fR : Addr} {fd fdR : FuncData} (F : FunD K "enter" "Console.enter" (defArgs sCE) (defBody sCE) (defScope sCE) [] [] f fd) (T : ConT K CC) (cR : Cls K CR) (n1 : NoAttr K CR "kind") (FR : FnP K "reply_to" sReply fR fdR) (GR : FnOk P w K mg base CX0 3 fR fdR ["names", "line"] (spReply CR))
    (TF : PySem.SupX.SupTxt P K CF fF "reason" "Refused.__init__") (gU : mg "super" = none) (gF : mg "Refused" = some (.ref CF)) (gR : mg "reply_to" = some (.ref fR)) (gL : mg "len" = none) : FnOk P w K mg base (L2N.CX P w) 4 f fd ["self", "line"] (spCE CC CF) := by
  have bR : Binds K fdR ["names", "line"] [] := FR.bindsN fun _ _ _ _ _ _ us hl => match us, hl with | [_, _], _ => rfl
  refine F.ok scCE (fun vs H Q E h => ?_) (fun cdv A outer s H vs Q E hr h => ?_)
  · obtain ⟨c, n, e, es, z, rfl, _⟩ := h
    rfl
  refine ⟨_, (pss_cons (ps_if (pt_cmpR op_ge (pe_callB (show CallR _ (.builtin "len") (rLen K) from call_len) rfl gL (by decide +kernel) (pa_cons (pe_fld (pv 0) rfl) pa_nil)) (pe_fld (pv 0) rfl) (nomark _))
      (pss_one (L2N.ps_raise rfl (L2N.takes_of rfl rfl rfl rfl) (pmk_supN TF gU gF hr (pa_cons pe_str pa_nil) rfl))) pss_nil)
    (pss_cons (ps_set (i := 2) scCE.nd rfl (.inl rfl) (pe_call GR hr rfl gR FR.kp bR .nil pass0 (pa_cons (pe_fld (pv 0) rfl) (pa_cons (pv 1) pa_nil))))
    (pss_cons (ps_if (pt_cmpR op_eq (pe_fld (pv 2) rfl) pe_str (nomark _)) pss_never pss_nil)
    (pss_cons (ps_expr (pe_bm PySem.F.plainAttrs_list PySem.F.slot_list_append PySem.F.type_list_append mt_append (pe_fld (pv 0) rfl) (pa_cons (pe_tup (pa_cons (pv 1) (pa_cons (pv 2) pa_nil))) pa_nil)))
      (pss_one (ps_ret (pv 2))))))), ?_⟩
  obtain ⟨c, n, e, es, z, rfl, ⟨⟨dx, hc⟩, hn, he⟩, h⟩ := h
  refine ⟨_, rfl, c, CC, dx, _, _, rfl, hc, T.cl, T.n3, rfl, V.ref e, es.length, rfl, .inl ⟨_, SqL.of he, by rw [List.length_map]⟩, ?_⟩
  refine ⟨_, rfl, c, CC, dx, _, _, rfl, hc, T.cl, T.n1, rfl, es.length, 200, rfl, rfl, _, rfl, ?_⟩
  rcases h with ⟨h1, _, hE⟩ | ⟨h1, hz, hQ⟩
  · rw [decide_eq_true (by omega)]
    exact ⟨_, rfl, hE⟩
  · rw [decide_eq_false (by omega)]
    refine ⟨_, rfl, c, CC, dx, _, _, rfl, hc, T.cl, T.n2, rfl, _, rfl, V.ref n, z, rfl, hz, fun r rdx k t H' s' hr' hk => ?_⟩
    refine ⟨_, rfl, r, CR, rdx, _, _, rfl, hr', cR, n1, rfl, rfl, _, rfl, ?_⟩
    rw [decide_eq_false (fun q => hk (V.str.inj q))]
    refine ⟨_, rfl, c, CC, dx, _, _, rfl, s' _ _ hc, T.cl, T.n3, rfl, .inl ⟨rfl, _, SqL.of (s' _ _ he)⟩, ?_⟩
    refine ⟨_, rfl, _, rfl, by show 2 ≤ sizeLine; decide, fun p hp => ?_⟩
    have pe : e ≠ p := fun q => by rw [← q, s' _ _ he] at hp; cases hp
    refine ⟨e, _, _, rfl, rfl, by rw [upd_ne pe]; exact s' _ _ he, by rw [List.length_map]; exact Nat.lt_trans h1 (by decide), ?_⟩
    refine ⟨_, rfl, hQ p r _ (fun b o hb q => ?_) ?_⟩
    · rw [upd_ne hb, upd_ne (ne_of_none (s' _ _ q) hp)]
      exact s' _ _ q
    · rw [upd_same, List.map_append]
      rfl
end
end K98
set_option Elab.async false
set_option linter.all false
set_option maxRecDepth 100000
set_option maxHeartbeats 4000000
namespace K98
open PySem PySem.Spec PyProof.Rows L2
section
variable {P : Program} {w : World} {K : PySem.W.Frag} {mg : Str → Option Value} {base : Heap}
abbrev sLE : Stmt := topS 123
abbrev nLE : List Str := ["console", "line", "bad"]
theorem scLE : FnScope nLE ["console", "line"] (defScope sLE) := ⟨rfl, rfl, rfl, by decide +kernel, rfl, by decide +kernel, by decide +kernel⟩
def spLE (CC : Addr) : Sp := fun vs H Q _ => ∃ (c n e : Addr) (es : List Addr) (z : Str), vs = [.ref c, .str z] ∧ Con CC H c n e es ∧
  ((200 ≤ es.length ∧ es.length < 1000 ∧ ∀ H', Same H H' → Q (.str "lines") H') ∨
    (es.length < 200 ∧ okz z ∧ ∀ t H', But e H H' → H' e = some (.lst ((es ++ [t]).map V.ref)) → Q (.str "none") H'))
theorem ok_le {f CC CF fE : Addr} {fd fdE : FuncData} (F : FnP K "_law_enter" sLE f fd) (T : ConT K CC) (FE : FunD K "enter" "Console.enter" (defArgs sCE) (defBody sCE) (defScope sCE) [] [] fE fdE) (GE : FnOk P w K mg base (L2N.CX P w) 4 fE fdE ["self", "line"] (spCE CC CF))
    (ME : Meth K CC "enter" fE) (gF : mg "Refused" = some (.ref CF)) (ex : PySem.W.exmOne K (.ref CF) (.ref CF) = some true) (xf : XfC K CF) (na : PySem.W.findIn K (.ref CF) "reason" = some none) : FnOk P w K mg base CX0 5 f fd ["console", "line"] (spLE CC) := by
  have bE : Binds K fdE ["self", "line"] [] := FE.bindsN fun _ _ _ _ _ _ us hl => match us, hl with | [_, _], _ => rfl
  refine F.ok scLE (fun vs H Q E h => ?_) (fun cdv A outer s H vs Q E hr h => ?_)
  · obtain ⟨c, n, e, es, z, rfl, _⟩ := h
    rfl
  refine ⟨_, (pss_cons (L2N.ps_try_first (i := 2) rfl rfl scLE.nd rfl rfl ⟨rfl, rfl, .inl gF⟩
    (fun W pn xe tk _ => pss_one (ps_expr (pe_mthS (pv 0) T.cl ME GE hr bE (fun σ => L2N.passAt tk σ) (pa_cons (pv 1) pa_nil))))
    (fun a oe cls d pn hz hf => pss_one (ps_ret (pe_xf xf na hz.zc hf (pv 2))))) (pss_one (ps_ret pe_str))), ?_⟩
  obtain ⟨c, n, e, es, z, rfl, C, h⟩ := h
  have hc := C.at_
  obtain ⟨dx, hc⟩ := hc
  refine ⟨_, rfl, c, dx, _, rfl, hc, rfl, _, rfl, c, n, e, es, z, rfl, C, ?_⟩
  rcases h with ⟨h1, h2, hQ⟩ | ⟨h1, hz, hQ⟩
  · refine .inl ⟨h1, h2, fun d hd => ⟨ex, fun a ha => ?_⟩⟩
    exact ⟨_, rfl, rfl, rfl, d, _, V.str "lines", rfl, upd_same, rfl, hQ _ (same_upd hd)⟩
  · exact .inr ⟨h1, hz, fun t r H' b q => hQ t H' b q⟩
end
end K98
set_option Elab.async false
set_option linter.all false
set_option maxRecDepth 100000
set_option maxHeartbeats 4000000
namespace K98
open PySem PySem.Spec PyProof.Rows L2
abbrev sState : Stmt := topS 121
theorem cut_ints (ns : List Int) (lo hi : Option Int) : ∃ ms : List Int, cutV (ns.map V.int) lo hi = ms.map V.int := by
  unfold cutV
  rw [← List.map_drop, ← List.map_take]
  exact ⟨_, rfl⟩
def spState (K : PySem.W.Frag) : Sp := fun vs H Q _ => ∃ (a : Addr) (ns : List Int), vs = [.ref a] ∧ SqL K H a (ns.map V.int) ∧
  ∀ (s t : Int) H' p, 0 ≤ s → 0 ≤ t → Same H H' → H p = none → H' p = some (.lst [.int s, .int t]) → Q (.ref p) H'
section
variable {P : Program} {w : World} {K : PySem.W.Frag} {mg : Str → Option Value} {base : Heap}
theorem scState : FnScope ["script", "seed", "total", "cell"] ["script"] (defScope sState) := ⟨rfl, rfl, rfl, by decide +kernel, rfl, by decide +kernel, by decide +kernel⟩
theorem ok_state {f : Addr} {fd : FuncData} (F : FnP K "_law_state" sState f fd) (gI : mg "int" = none) (gA : mg "abs" = none) : FnOk P w K mg base CX0 1 f fd ["script"] (spState K) := by
  refine F.ok scState (fun vs H Q E h => ?_) (fun cdv A outer s H vs Q E hr h => ?_)
  · obtain ⟨a, ns, rfl, _⟩ := h
    rfl
  obtain ⟨a, ns, rfl, hs, hQ⟩ := h
  refine ⟨_, PSs.nox (pss_cons (ps_set (i := 1) scState.nd rfl (.inl rfl) pe_int) (pss_cons (ps_set (i := 2) scState.nd rfl (.inl rfl) pe_int)
    (pss_cons (ps_for PassesOwn.never rfl (pi_list (pe_slice sl_list (pv 0) po_none (po_some pe_int))) (pg_name (i := 3) scState.nd rfl (.inl rfl))
      (pss_cons (ps_set (i := 1) scState.nd rfl (.inl rfl) (pe_op op_add (pe_op op_mul (pv 1) pe_int) (pe_callB call_abs rfl gA (by decide +kernel) (pa_cons (pv 3) pa_nil))))
        (pss_one (ps_set (i := 2) scState.nd rfl (.inl rfl) (pe_op op_mod (pe_callTy call_int1 rfl gI (by decide +kernel) (pa_cons (pe_op op_add (pe_op op_mul (pv 2) pe_int) (pv 3)) pa_nil)) pe_int)))))
      (pss_one (ps_ret (pe_lst (pa_cons (pv 1) (pa_cons (pv 2) pa_nil)))))))), ?_⟩
  refine ⟨_, rfl, _, rfl, a, _, rfl, hs, fun p hp => ?_⟩
  obtain ⟨ms, hm⟩ := cut_ints ns none (some 63)
  rw [hm]
  refine ⟨p, rfl, ⟨_, SqL.of upd_same⟩, for_list (K := K) (a := p) (xs := ms.map V.int) (fun _ σ H' => ∃ (x y : Int) (v : Option V), σ = [some (.ref a), some (.int x), some (.int y), v] ∧ 0 ≤ x ∧ 0 ≤ y ∧ H' = upd H p (.lst (ms.map V.int)))
    ⟨0, 1, none, rfl, by decide, by decide, rfl⟩ (fun _ _ _ _ ⟨_, _, _, _, _, _, e⟩ => by rw [e]; exact SqL.of upd_same) ?_ ?_⟩
  · rintro i c σ H' hi ⟨x, y, v, rfl, hx, hy, rfl⟩
    obtain ⟨z, hz, rfl⟩ : ∃ z, ms[i]? = some z ∧ c = V.int z := by
      rw [List.getElem?_map] at hi
      cases e : ms[i]? with
      | none => rw [e] at hi; cases hi
      | some z => rw [e] at hi; exact ⟨z, rfl, (Option.some.inj hi).symm⟩
    refine ⟨_, rfl, _, _, rfl, rfl, .inr (by decide), _, rfl, z, rfl, _, _, rfl, rfl, ?_⟩
    refine ⟨_, rfl, _, _, rfl, rfl, .inr (by decide), _, rfl, _, _, rfl, rfl, .inl ⟨_, rfl, _, _, rfl, rfl, (by show (0 : Int) < 2147483647; decide), ?_⟩⟩
    refine ⟨x * 1000003 + (if z < 0 then -z else z), (y * 48271 + z) % 2147483647, _, rfl, ?_, Int.emod_nonneg _ (by decide), rfl⟩
    have : 0 ≤ (if z < 0 then -z else z) := by split <;> omega
    have := Int.mul_nonneg hx (by decide : (0 : Int) ≤ 1000003)
    omega
  · rintro σ H' ⟨x, y, v, rfl, hx, hy, rfl⟩
    refine ⟨_, rfl, _, rfl, (by show 2 ≤ sizeLine; decide), fun q hq => ?_⟩
    have hp' : H q = none := by
      cases e : H q with
      | none => rfl
      | some o =>
        have ne : q ≠ p := fun z => by rw [z, hp] at e; cases e
        rw [upd_ne ne, e] at hq
        cases hq
    refine hQ x y _ q hx hy (fun b o e => ?_) hp' upd_same
    rw [upd_ne (ne_of_none e hp'), upd_ne (ne_of_none e hp)]
    exact e
abbrev sTake : Stmt := topS 122
def spTake : Sp := fun vs H Q _ => ∃ (a : Addr) (s t m : Int), vs = [.ref a, .int m] ∧ H a = some (.lst [.int s, .int t]) ∧ 0 ≤ s ∧ 0 ≤ t ∧ 0 < m ∧ m < 1073741824 ∧
  ∀ v s' t' : Int, 0 ≤ v → v < m → 0 ≤ s' → 0 ≤ t' → Q (.int v) (upd H a (.lst [.int s', .int t']))
theorem scTake : FnScope ["state", "m", "value"] ["state", "m"] (defScope sTake) := ⟨rfl, rfl, rfl, by decide +kernel, rfl, by decide +kernel, by decide +kernel⟩
theorem at0 {x y : V} : atI [x, y] 0 = some x := rfl
theorem at1 {x y : V} : atI [x, y] 1 = some y := rfl
theorem ok_take {f : Addr} {fd : FuncData} (F : FnP K "_law_take" sTake f fd) (gI : mg "int" = none) : FnOk P w K mg base CX0 1 f fd ["state", "m"] spTake := by
  refine F.ok scTake (fun vs H Q E h => ?_) (fun cdv A outer s H vs Q E hr h => ?_)
  · obtain ⟨a, s, t, m, rfl, _⟩ := h
    rfl
  obtain ⟨a, x, y, m, rfl, ha, hx, hy, hm, hm2, hQ⟩ := h
  refine ⟨_, PSs.nox (pss_cons (ps_if (pt_cmpR op_gt (pe_ix ix_list (pv 0) pe_int (fun _ _ => rfl)) pe_int (nomark _))
      (pss_cons (ps_set (i := 2) scTake.nd rfl (.inl rfl) (pe_op op_mod (pe_callTy call_int1 rfl gI (by decide +kernel) (pa_cons (pe_ix ix_list (pv 0) pe_int (fun _ _ => rfl)) pa_nil)) (pv 1)))
      (pss_cons (ps_asg (pe_op op_fdivN (pe_ix ix_list (pv 0) pe_int (fun _ _ => rfl)) (pv 1)) (pg_sub (pv 0) pe_int set_list)) (pss_one (ps_ret (pv 2))))) pss_nil)
    (pss_cons (ps_asg (pe_op op_mod (pe_callTy call_int1 rfl gI (by decide +kernel) (pa_cons (pe_op op_add (pe_op op_mul (pe_ix ix_list (pv 0) pe_int (fun _ _ => rfl)) pe_int) pe_int) pa_nil)) pe_int) (pg_sub (pv 0) pe_int set_list))
      (pss_one (ps_ret (pe_op op_mod (pe_callTy call_int1 rfl gI (by decide +kernel) (pa_cons (pe_op op_fdivN (pe_ix ix_list (pv 0) pe_int (fun _ _ => rfl)) pe_int) pa_nil)) (pv 1)))))), ?_⟩
  have hS : SqL K H a [.int x, .int y] := SqL.of ha
  refine ⟨_, rfl, a, _, 0, _, rfl, rfl, hS, at0, _, _, rfl, rfl, _, rfl, ite2 (fun c => ?_) (fun c => ?_)⟩
  · have c' := of_decide_eq_true c
    refine ⟨_, rfl, a, _, 0, _, rfl, rfl, hS, at0, .inl ⟨_, rfl, _, rfl, _, _, rfl, rfl, hm, ?_⟩⟩
    refine ⟨_, rfl, a, _, 0, _, rfl, rfl, hS, at0, _, rfl, _, _, rfl, rfl, ⟨by omega, by omega⟩, ?_⟩
    refine ⟨_, rfl, a, _, 0, 0, rfl, rfl, ha, rfl, _, rfl, ?_⟩
    refine hQ _ _ _ (Int.emod_nonneg _ (by omega)) (Int.emod_lt_of_pos _ hm) ?_ hy
    rw [Int.fdiv_eq_ediv_of_nonneg _ (by omega)]
    exact Int.ediv_nonneg hx (by omega)
  · refine ⟨_, rfl, a, _, 1, _, rfl, rfl, hS, at1, _, _, rfl, rfl, .inr (by decide), _, _, rfl, rfl, .inl ⟨_, rfl, _, _, rfl, rfl, (by show (0 : Int) < 2147483647; decide), ?_⟩⟩
    refine ⟨_, rfl, a, _, 1, 1, rfl, rfl, ha, rfl, ?_⟩
    refine ⟨_, rfl, a, _, 1, _, rfl, rfl, SqL.of upd_same, at1, _, _, rfl, rfl, (by show (7 : Int) ≠ 0 ∧ _; decide), .inl ⟨_, rfl, _, rfl, _, _, rfl, rfl, hm, ?_⟩⟩
    exact hQ _ _ _ (Int.emod_nonneg _ (by omega)) (Int.emod_lt_of_pos _ hm) hx (Int.emod_nonneg _ (by decide))
end
end K98
set_option Elab.async false
set_option linter.all false
set_option maxRecDepth 100000
set_option maxHeartbeats 4000000
namespace K98
open PySem PySem.Spec PyProof.Rows L2
theorem walk_listF {K : PySem.W.Frag} {a : Addr} {xs : List V} : Walk (ItX.ItlF K a 0) xs.length (fun H => SqL K H a xs) (YAt xs) :=
  ⟨fun i H hi q => by have z := (walk_list (K := K) (a := a) (xs := xs)).goes i H hi q; show (Itl K a).go (0 + i) H; rw [Nat.zero_add]; exact z,
   fun H q => by show (Itl K a).stop (0 + xs.length) H; rw [Nat.zero_add]; exact (walk_list (K := K) (a := a) (xs := xs)).stops H q,
   fun i H x H' hi q y => by
    have y' : (Itl K a).yld (0 + i) H x H' := y
    rw [Nat.zero_add] at y'
    exact (walk_list (K := K) (a := a) (xs := xs)).yields i H x H' hi q y'⟩
theorem copy_run {K : PySem.W.Frag} {e D : Addr} {es : List Addr} {σ : L2.St} {H : Hp} {Qd : Hp → Prop} (he : H e = some (.lst (es.map V.ref))) (hl : σ.length = 9) (hn : es.length < 1000) (hD : H D = none) (hQ : Qd (L2.upd H D (.lst (es.map V.ref)))) :
    ∃ W : Nat → Nat → Hp → Prop, (∃ m, W 0 m (L2.upd H D (.lst []))) ∧ ∀ i m H, W i m H →
      ((ItX.ItlF K e 0).stop i H ∧ Qd H) ∨ ((ItX.ItlF K e 0).go i H ∧ ∃ Nx : Hp → Prop, (∀ H', Nx H' → ∃ m', m' < m ∧ W (i + 1) m' H') ∧ ∀ x H', (ItX.ItlF K e 0).yld i H x H' → gName 8 x (wipe σ [8]) H' fun σ2 H2 => wipe σ2 [8] = wipe σ [8] ∧ tYes σ2 H2 fun b H3 =>
        if b = true then tVar 8 σ2 H3 fun y H4 => ∃ acc, H4 D = some (.lst acc) ∧ acc.length < sizeLine ∧ Nx (L2.upd H4 D (.lst (acc ++ [y]))) else Nx H3) := by
  have neD : e ≠ D := fun z => by rw [← z, he] at hD; cases hD
  refine lc_it walk_listF (fun i H' => H' = L2.upd H D (.lst ((es.map V.ref).take i))) (by rw [List.take_zero]) (fun i H' _ z => by subst z; exact SqL.of (by rw [upd_ne neD]; exact he)) (fun i x H1 H2 hi z y => ?_) (fun H' z => ?_)
  · obtain ⟨rfl, hx⟩ := y
    subst z
    refine ⟨?_, _, (by show ((wipe σ [8]).set 8 (some x))[8]? = some (some x); rw [List.getElem?_set_self (by show 8 < (σ.set 8 none).length; rw [List.length_set]; omega)]), _, upd_same, ?_, ?_⟩
    · show ((wipe σ [8]).set 8 (some x)).set 8 none = (σ.set 8 none)
      show ((σ.set 8 none).set 8 (some x)).set 8 none = (σ.set 8 none)
      rw [List.set_set, List.set_set]
    · rw [List.length_take, List.length_map]
      exact Nat.lt_of_le_of_lt (Nat.min_le_right _ _) (Nat.lt_trans hn (by decide))
    · rw [upd_upd, List.take_succ, hx]
      rfl
  · subst z
    rw [List.take_length]
    exact hQ
theorem mk_con {CC x dx : Addr} {H : Hp} {Q : Hp → Prop} (hx : H x = none) (hdx : H dx = none) (hne : dx ≠ x) (h : ∀ n e H', H n = none → H e = none → Same H H' → Con CC H' x n e [] → Q H') :
    spCI CC (V.ref x :: ([] ++ [V.int 200])) (L2.upd (L2.upd H dx (.own x)) x (.ins CC dx [])) (fun v H2 => v = .non ∧ Q H2) E0 := by
  refine ⟨x, dx, rfl, upd_same, fun n e H' hn he hc hnm hen but => ⟨rfl, ?_⟩⟩
  have old : ∀ b, (L2.upd (L2.upd H dx (.own x)) x (.ins CC dx [])) b = none → H b = none := fun b q => by
    have b1 : b ≠ x := fun z => by rw [z, upd_same] at q; cases q
    rw [upd_ne b1] at q
    have b2 : b ≠ dx := fun z => by rw [z, upd_same] at q; cases q
    rwa [upd_ne b2] at q
  refine h n e H' (old n hn) (old e he) (fun b o q => ?_) ⟨⟨dx, hc⟩, hnm, hen⟩
  have b1 : b ≠ x := ne_of_none q hx
  exact but b o b1 (by rw [upd_ne b1, upd_ne (ne_of_none q hdx)]; exact q)
theorem Con.upd {CC : Addr} {H : Hp} {c n e p : Addr} {es : List Addr} {u : HO} (C : Con CC H c n e es) (h1 : p ≠ c) (h2 : p ≠ n) (h3 : p ≠ e) : Con CC (L2.upd H p u) c n e es :=
  ⟨let ⟨dx, h⟩ := C.at_; ⟨dx, by rw [upd_ne (Ne.symm h1)]; exact h⟩, by rw [upd_ne (Ne.symm h2)]; exact C.nm, by rw [upd_ne (Ne.symm h3)]; exact C.en⟩
theorem ne_obj {H : Hp} {a b : Addr} {o u : HO} (ha : H a = some o) (hb : H b = some u) (h : o ≠ u) : a ≠ b := fun z => by
  rw [z, hb] at ha
  exact h (Option.some.inj ha).symm
theorem Con.grow {CC : Addr} {H H' : Hp} {c n e : Addr} {es : List Addr} {t : Addr} (C : Con CC H c n e es) (b : But e H H') (h : H' e = some (.lst ((es ++ [t]).map V.ref))) : Con CC H' c n e (es ++ [t]) :=
  ⟨let ⟨dx, q⟩ := C.at_; ⟨dx, b _ _ (ne_obj q C.en (fun z => by cases z)) q⟩, b _ _ (ne_obj C.nm C.en (fun z => by cases z)) C.nm, h⟩
theorem Con.but {CC : Addr} {H H' : Hp} {c n e p : Addr} {es : List Addr} {l : List V} (C : Con CC H c n e es) (hp : H p = some (.lst l)) (ne : e ≠ p) (b : But p H H') : Con CC H' c n e es :=
  ⟨let ⟨dx, q⟩ := C.at_; ⟨dx, b _ _ (ne_obj q hp (fun z => by cases z)) q⟩, b _ _ (ne_obj C.nm hp (fun z => by cases z)) C.nm, b _ _ ne C.en⟩
theorem at_okz {v : Int} (h0 : 0 ≤ v) (h1 : v < 4) : ∃ z, atI [V.str "", V.str "# a", V.str "  ", V.str "?"] v = some (.str z) ∧ okz z := by
  obtain ⟨n, rfl⟩ := Int.eq_ofNat_of_zero_le h0
  match n, h1 with
  | 0, _ => exact ⟨"", rfl, .inl (.inl rfl)⟩
  | 1, _ => exact ⟨"# a", rfl, .inl (.inr (.inr rfl))⟩
  | 2, _ => exact ⟨"  ", rfl, .inl (.inr (.inl rfl))⟩
  | 3, _ => exact ⟨"?", rfl, .inr rfl⟩
  | n + 4, h => exact absurd h (by omega)
abbrev sLaw : Stmt := topS 124
abbrev nLaw : List Str := ["script", "state", "console", "other", "line", "k", "kept", "text", "entry"]
theorem scLaw : FnScope nLaw ["script"] (defScope sLaw) := ⟨rfl, rfl, rfl, by decide +kernel, rfl, by decide +kernel, by decide +kernel⟩
def spLaw (K : PySem.W.Frag) : Sp := fun vs H Q _ => ∃ (a : Addr) (ns : List Int), vs = [.ref a] ∧ SqL K H a (ns.map V.int) ∧ ∀ H', Q (.bl true) H'
section
variable {P : Program} {w : World} {K : PySem.W.Frag} {mg : Str → Option Value} {base : Heap}
structure Parts (P : Program) (w : World) (K : PySem.W.Frag) (mg : Str → Option Value) (base : Heap) (CC : Addr) where
  fS : Addr
  fdS : FuncData
  FS : FnP K "_law_state" sState fS fdS
  gS : mg "_law_state" = some (.ref fS)
  fT : Addr
  fdT : FuncData
  FT : FnP K "_law_take" sTake fT fdT
  gT : mg "_law_take" = some (.ref fT)
  fE : Addr
  fdE : FuncData
  FE : FnP K "_law_enter" sLE fE fdE
  gE : mg "_law_enter" = some (.ref fE)
  GE : FnOk P w K mg base CX0 5 fE fdE ["console", "line"] (spLE CC)
  fI : Addr
  fdI : FuncData
  FI : FunD K "__init__" "Console.__init__" (defArgs sCI) (defBody sCI) (defScope sCI) [] [("most", .int 200)] fI fdI
  MI : Mk K CC fI
  gC : mg "Console" = some (.ref CC)
  fL : Addr
  fdL : FuncData
  FL : FunD K "__len__" "Console.__len__" (defArgs sCL) (defBody sCL) (defScope sCL) [] [] fL fdL
  OL : OwnSp K CC "__len__" fL
  fU : Addr
  fdU : FuncData
  FU : FunD K "__iter__" "Console.__iter__" (defArgs sCT) (defBody sCT) (defScope sCT) [] [] fU fdU
  OU : OwnSp K CC "__iter__" fU
  fN : Addr
  fdN : FuncData
  FN : FunD K "names" "Console.names" (defArgs sCN) (defBody sCN) (defScope sCN) [] [] fN fdN
  MN : Meth K CC "names" fN
  T : ConT K CC
  gI : mg "int" = none
  gA : mg "abs" = none
  gL : mg "len" = none
  gR : mg "range" = none
  gIt : mg "iter" = none
  gD : mg "dict" = none
theorem ok_law {f CC : Addr} {fd : FuncData} (F : FnP K "law" sLaw f fd) (p : Parts P w K mg base CC) : FnOk P w K mg base CX0 6 f fd ["script"] (spLaw K) := by
  obtain ⟨fS, fdS, FS, gS, fT, fdT, FT, gT, fE, fdE, FE, gE, GE, fI, fdI, FI, MI, gC, fL, fdL, FL, OL, fU, fdU, FU, OU, fN, fdN, FN, MN, T, gI, gA, gL, gR, gIt, gD⟩ := p
  have GS : FnOk P w K mg base CX0 1 fS fdS ["script"] (spState K) := ok_state FS gI gA
  have GT : FnOk P w K mg base CX0 1 fT fdT ["state", "m"] spTake := ok_take FT gI
  have GI : FnOk P w K mg base CX0 1 fI fdI ["self", "most"] (spCI CC) := ok_ci FI T
  have GL : FnOk P w K mg base CX0 1 fL fdL ["self"] (spCL CC) := ok_cl FL T gL
  have GU : FnAt P w K mg base CX0 1 fU fdU ["self"] (spIter CC "_entries" K) := ok_ct FU T gIt
  have GN : FnOk P w K mg base CX0 1 fN fdN ["self"] (spCN CC) := ok_cn FN T gD
  have bS : Binds K fdS ["script"] [] := FS.bindsN fun _ _ _ _ _ _ us hl => match us, hl with | [_], _ => rfl
  have bT : Binds K fdT ["state", "m"] [] := FT.bindsN fun _ _ _ _ _ _ us hl => match us, hl with | [_, _], _ => rfl
  have bE : Binds K fdE ["console", "line"] [] := FE.bindsN fun _ _ _ _ _ _ us hl => match us, hl with | [_, _], _ => rfl
  have bL : Binds K fdL ["self"] [] := FL.bindsN fun _ _ _ _ _ _ us hl => match us, hl with | [_], _ => rfl
  have bU : Binds K fdU ["self"] [] := FU.bindsN fun _ _ _ _ _ _ us hl => match us, hl with | [_], _ => rfl
  have bN : Binds K fdN ["self"] [] := FN.bindsN fun _ _ _ _ _ _ us hl => match us, hl with | [_], _ => rfl
  obtain ⟨ds, hds, bI⟩ : ∃ ds, Vals [V.int 200] ds ∧ Binds K fdI ["self", "most"] ds := FI.binds0 1 (by simp) rfl fun D doc pm an cdv ct us ks hl hk => match us, ks, hl, hk with | [u], [k], _, _ => ⟨_, _, _, _, _, _, rfl, rfl, rfl⟩
  refine F.ok scLaw (fun vs H Q E h => ?_) (fun cdv A outer s H vs Q E hr h => ?_)
  · obtain ⟨a, ns, rfl, _⟩ := h
    rfl
  have hr2 := hr.mono (j := 2) (by decide)
  have hr1 := hr.mono (j := 1) (by decide)
  refine ⟨_, PSs.nox (pss_cons (ps_set (i := 1) scLaw.nd rfl (.inl rfl) (pe_call GS hr1 rfl gS FS.kp bS .nil pass0 (pa_cons (pv 0) pa_nil)))
    (pss_cons (ps_par (i := 2) (j := 3) rfl scLaw.nd rfl rfl (by decide) rfl rfl (pa_cons (pe_make0 MI GI hr2 rfl gC bI hds pass0) (pa_cons (pe_make0 MI GI hr2 rfl gC bI hds pass0) pa_nil)) rfl)
    (pss_cons (ps_set (i := 4) scLaw.nd rfl (.inl rfl) (pe_ix ix_list (pe_lst (pa_cons pe_str (pa_cons pe_str (pa_cons pe_str (pa_cons pe_str pa_nil))))) (pe_call GT hr1 rfl gT FT.kp bT .nil pass0 (pa_cons (pv 1) (pa_cons pe_int pa_nil))) (fun _ _ => rfl)))
    (pss_cons (ps_for PassesOwn.never rfl (pi_range1 rfl gR (pa_cons pe_int pa_nil)) (pg_name (i := 5) scLaw.nd rfl (.inl rfl))
        (pss_one (ps_if (pt_cmpR op_ne (pe_call GE hr rfl gE FE.kp bE .nil pass0 (pa_cons (pv 2) (pa_cons (pv 4) pa_nil))) pe_str (nomark _)) (pss_one (ps_ret pe_bl)) pss_nil)))
    (pss_cons (ps_setLc (i := 6) (own := [("entry", 8)]) (g := gName 8) rfl scLaw.nd rfl rfl (sw_true rfl rfl rfl (by decide +kernel)) (pi_own (pv 2) OU GU hr1 bU pass0) (blkOk_by (by show blkC nLaw (defScope sLaw) _ _ = true; decide +kernel))
        (fun _ _ _ _ _ => pg_name (i := 8) scLaw.nd rfl (.inl rfl)) (fun _ _ _ _ _ => pts_nil) (fun _ _ _ _ _ => pv 8))
    (pss_cons (ps_for PassesOwn.never rfl (pi_list (pe_lst (pa_cons (pv 4) (pa_cons pe_str (pa_cons pe_str (pa_cons pe_str pa_nil)))))) (pg_name (i := 7) scLaw.nd rfl (.inl rfl))
        (pss_one (ps_if (pt_cmpR op_ne (pe_call GE hr rfl gE FE.kp bE .nil pass0 (pa_cons (pv 2) (pa_cons (pv 7) pa_nil))) pe_str (nomark _)) (pss_one (ps_ret pe_bl)) pss_nil)))
    (pss_cons (ps_if (PW.pt (pw_or (pt_cmpR op_ne (pe_callB (call_lenO OL GL hr2 bL pass0) rfl gL (by decide +kernel) (pa_cons (pv 2) pa_nil)) pe_int (nomark _))
        (pw_or (pt_cmpR (op_neSame hr.units0) (pe_lc (own := [("entry", 8)]) (g := gName 8) rfl scLaw.nd (pi_own (pv 2) OU GU hr1 bU pass0) (blkOk_by (by show blkC nLaw (defScope sLaw) _ _ = true; decide +kernel))
            (fun _ _ _ _ _ => pg_name (i := 8) scLaw.nd rfl (.inl rfl)) (fun _ _ _ _ _ => pts_nil) (fun _ _ _ _ _ => pv 8)) (pv 6) (nomark _))
          (pw_or1 (pt_cmpR op_ne (pe_callB (show CallR _ (.builtin "len") (rLen K) from call_len) rfl gL (by decide +kernel) (pa_cons (pv 6) pa_nil)) pe_int (nomark _)))))) (pss_one (ps_ret pe_bl)) pss_nil)
    (pss_cons (ps_if (PW.pt (pw_or (pt_cmpR (op_ne_dictA hr.units0) (pe_meth0 (pv 2) T.cl MN GN hr1 bN .nil pass0) pe_dnewK (nomark _))
        (pw_or (pt_cmpR op_ne (pe_callB (call_lenO OL GL hr2 bL pass0) rfl gL (by decide +kernel) (pa_cons (pv 3) pa_nil)) pe_int (nomark _))
          (pw_or1 (pt_cmpR (op_neSame hr.units0) (pe_lc (own := [("entry", 8)]) (g := gName 8) rfl scLaw.nd (pi_own (pv 3) OU GU hr1 bU pass0) (blkOk_by (by show blkC nLaw (defScope sLaw) _ _ = true; decide +kernel))
            (fun _ _ _ _ _ => pg_name (i := 8) scLaw.nd rfl (.inl rfl)) (fun _ _ _ _ _ => pts_nil) (fun _ _ _ _ _ => pv 8)) (pe_lst pa_nil) (nomark _)))))) (pss_one (ps_ret pe_bl)) pss_nil)
      (pss_one (ps_ret (pe_and (pe_cmpR op_eq (pe_call GE hr rfl gE FE.kp bE .nil pass0 (pa_cons (pv 3) (pa_cons (pv 4) pa_nil))) pe_str (nomark _))
        (pe_and (pe_cmpR op_eq (pe_callB (call_lenO OL GL hr2 bL pass0) rfl gL (by decide +kernel) (pa_cons (pv 3) pa_nil)) pe_int (nomark _))
          (pe_one (pe_cmpR op_eq (pe_callB (call_lenO OL GL hr2 bL pass0) rfl gL (by decide +kernel) (pa_cons (pv 2) pa_nil)) pe_int (nomark _))))))))))))))), ?_⟩
  obtain ⟨a, ns, rfl, hs, hQ⟩ := h
  refine ⟨_, rfl, a, ns, rfl, hs, fun s0 t0 H1 p h0 h1 s1 hp1 hp2 => ?_⟩
  refine fun c dc hc hdc ndc => mk_con hc hdc ndc fun n e H2 hn he sm C => ?_
  refine fun o do_ ho hdo ndo => mk_con ho hdo ndo fun n' e' H3 hn' he' sm' C' => ?_
  refine ⟨_, _, rfl, ?_⟩
  have p2 := sm _ _ hp2
  have p3 := sm' _ _ p2
  refine ⟨by show 4 ≤ sizeLine; decide, fun q hq => ?_⟩
  have npq : p ≠ q := ne_of_none p3 hq
  refine ⟨_, rfl, p, s0, t0, 4, rfl, by rw [upd_ne npq]; exact p3, h0, h1, by decide, by decide, fun v s' t' v0 v1 a0 a1 => ?_⟩
  obtain ⟨z, hz, kz⟩ := at_okz v0 v1
  refine ⟨q, _, v, _, rfl, rfl, SqL.of (by rw [upd_ne (Ne.symm npq), upd_same]), hz, ?_⟩
  have C3 : Con CC (L2.upd (L2.upd H3 q (.lst [V.str "", V.str "# a", V.str "  ", V.str "?"])) p (.lst [.int s', .int t'])) c n e [] :=
    ((C.same sm').same (same_upd hq)).upd (ne_of_none hp2 hc) (ne_of_none hp2 hn) (ne_of_none hp2 he)
  have O3 : Con CC (L2.upd (L2.upd H3 q (.lst [V.str "", V.str "# a", V.str "  ", V.str "?"])) p (.lst [.int s', .int t'])) o n' e' [] :=
    (C'.same (same_upd hq)).upd (ne_of_none p2 ho) (ne_of_none p2 hn') (ne_of_none p2 he')
  have nee : e ≠ e' := ne_of_none C.en he'
  refine ⟨200, rfl, by decide, by decide, for_range (lo := 0) (n := 200) (fun k σ H' => σ.length = 9 ∧ σ[2]? = some (some (V.ref c)) ∧ σ[3]? = some (some (V.ref o)) ∧ σ[4]? = some (some (V.str z)) ∧ ∃ es, es.length = k ∧ Con CC H' c n e es ∧ Con CC H' o n' e' [])
    ⟨rfl, rfl, rfl, rfl, [], rfl, C3, O3⟩ (fun k σ H' hk P => ?_) (fun σ H' P => ?_)⟩
  · obtain ⟨l9, g2, g3, g4, es, hes, Ck, Ok⟩ := P
    have f2 : (σ.set 5 (some (V.int (0 + (k : Int)))))[2]? = some (some (V.ref c)) := by rw [List.getElem?_set_ne (by decide)]; exact g2
    have f4 : (σ.set 5 (some (V.int (0 + (k : Int)))))[4]? = some (some (V.str z)) := by rw [List.getElem?_set_ne (by decide)]; exact g4
    refine ⟨_, f2, _, f4, c, n, e, es, z, rfl, Ck, .inr ⟨by omega, kz, fun t H4 but hen => ⟨rfl, _, rfl, ?_⟩⟩⟩
    refine ⟨by rw [List.length_set]; exact l9, f2, by rw [List.getElem?_set_ne (by decide)]; exact g3, f4, es ++ [t], by rw [List.length_append, hes]; rfl, Ck.grow but hen, Ok.but Ck.en (Ne.symm nee) but⟩
  · obtain ⟨l9, g2, g3, g4, es, hes, Ck, Ok⟩ := P
    obtain ⟨dk, hck⟩ := Ck.at_
    refine ⟨_, g2, c, dk, e, _, _, rfl, hck, rfl, SqL.of Ck.en, fun D hD => copy_run Ck.en l9 (by omega) hD ?_⟩
    have g2' : (σ.set 6 (some (V.ref D)))[2]? = some (some (V.ref c)) := by rw [List.getElem?_set_ne (by decide)]; exact g2
    have g3' : (σ.set 6 (some (V.ref D)))[3]? = some (some (V.ref o)) := by rw [List.getElem?_set_ne (by decide)]; exact g3
    have g4' : (σ.set 6 (some (V.ref D)))[4]? = some (some (V.str z)) := by rw [List.getElem?_set_ne (by decide)]; exact g4
    have g6' : (σ.set 6 (some (V.ref D)))[6]? = some (some (V.ref D)) := by rw [List.getElem?_set_self (by omega)]
    refine ⟨_, g4', by show 4 ≤ sizeLine; decide, fun q2 hq2 => ?_⟩
    generalize hG : L2.upd (L2.upd H' D (.lst (es.map V.ref))) q2 _ = G
    have sG : Same H' G := by rw [← hG]; exact (same_upd hD).trans (same_upd hq2)
    have CG := Ck.same sG
    have OG := Ok.same sG
    have DG : G D = some (.lst (es.map V.ref)) := by rw [← hG]; exact (same_upd hq2) _ _ upd_same
    have QG : G q2 = some (.lst [V.str z, V.str "", V.str "# b", V.str "?"]) := by rw [← hG]; exact upd_same
    refine ⟨q2, rfl, ⟨_, SqL.of QG⟩, for_list (K := K) (a := q2) (xs := [V.str z, V.str "", V.str "# b", V.str "?"]) (fun k σ H' => σ.length = 9 ∧ σ[2]? = some (some (V.ref c)) ∧ σ[3]? = some (some (V.ref o)) ∧ σ[4]? = some (some (V.str z)) ∧ σ[6]? = some (some (V.ref D)) ∧ Same G H')
      ⟨by rw [List.length_set]; exact l9, g2', g3', g4', g6', fun _ _ e => e⟩ (fun k σ H' _ P => SqL.of (P.2.2.2.2.2 _ _ QG)) (fun k x σ H' hx P => ?_) (fun σ H' P => ?_)⟩
    · obtain ⟨l9, g2, g3, g4, g6, sH⟩ := P
      obtain ⟨y, rfl⟩ : ∃ y, x = V.str y := by
        match k, hx with
        | 0, hx => exact ⟨_, (Option.some.inj hx).symm⟩
        | 1, hx => exact ⟨_, (Option.some.inj hx).symm⟩
        | 2, hx => exact ⟨_, (Option.some.inj hx).symm⟩
        | 3, hx => exact ⟨_, (Option.some.inj hx).symm⟩
        | k + 4, hx => cases hx
      have f2 : (σ.set 7 (some (V.str y)))[2]? = some (some (V.ref c)) := by rw [List.getElem?_set_ne (by decide)]; exact g2
      have f7 : (σ.set 7 (some (V.str y)))[7]? = some (some (V.str y)) := by rw [List.getElem?_set_self (by omega)]
      refine ⟨_, f2, _, f7, c, n, e, es, y, rfl, CG.same sH, .inl ⟨by omega, by omega, fun H4 s4 => ⟨rfl, _, rfl, ?_⟩⟩⟩
      exact ⟨by rw [List.length_set]; exact l9, f2, by rw [List.getElem?_set_ne (by decide)]; exact g3, by rw [List.getElem?_set_ne (by decide)]; exact g4, by rw [List.getElem?_set_ne (by decide)]; exact g6, sH.trans s4⟩
    · obtain ⟨l9, g2, g3, g4, g6, sH⟩ := P
      have CH := CG.same sH
      have OH := OG.same sH
      have DH := sH _ _ DG
      obtain ⟨dx, hcx⟩ := CH.at_
      obtain ⟨do', hox⟩ := OH.at_
      refine ⟨_, g2, c, dx, _, rfl, hcx, ⟨c, n, e, es, rfl, CH, es.length, rfl, by omega, rfl, _, rfl, ?_⟩⟩
      rw [hes]
      refine ⟨_, g2, c, dx, e, _, _, rfl, hcx, rfl, SqL.of CH.en, fun D2 hD2 => copy_run CH.en l9 (by omega) hD2 ?_⟩
      have s5 : Same H' (L2.upd H' D2 (.lst (es.map V.ref))) := same_upd hD2
      refine ⟨_, g6, D2, D, es, rfl, rfl, SqL.of upd_same, SqL.of (s5 _ _ DH), _, rfl, ?_⟩
      refine ⟨_, g6, V.ref D, es.length, rfl, .inl ⟨_, SqL.of (s5 _ _ DH), by rw [List.length_map]⟩, rfl, _, rfl, ?_⟩
      rw [hes]
      generalize L2.upd H' D2 (.lst (es.map V.ref)) = H5 at s5 ⊢
      refine ⟨_, g2, c, dx, _, rfl, s5 _ _ hcx, rfl, c, n, e, es, rfl, CH.same s5, fun p1 hp1 d hd => ?_⟩
      refine ⟨p1, d, [], [], rfl, rfl, (same_upd hd) _ _ upd_same, upd_same, rfl, (fun _ h => by cases h), _, rfl, ?_⟩
      have s6 := s5.trans ((same_upd hp1).trans (same_upd (o := .dK []) hd))
      generalize L2.upd (L2.upd H5 p1 (.dK [])) d (.dK []) = H6 at s6 ⊢
      refine ⟨_, g3, o, do', _, rfl, s6 _ _ hox, ⟨o, n', e', [], rfl, OH.same s6, 0, rfl, by decide, rfl, _, rfl, ?_⟩⟩
      refine ⟨_, g3, o, do', e', _, _, rfl, s6 _ _ hox, rfl, SqL.of (OH.same s6).en, fun D3 hD3 => copy_run (OH.same s6).en l9 (by decide) hD3 ?_⟩
      refine ⟨by show 0 ≤ sizeLine; decide, fun l hl => ?_⟩
      refine ⟨D3, l, [], rfl, rfl, SqL.of ((same_upd hl) _ _ upd_same), SqL.of upd_same, _, rfl, ?_⟩
      have s7 := s6.trans ((same_upd hD3).trans (same_upd (o := .lst []) hl))
      generalize hG7 : L2.upd (L2.upd H6 D3 _) l _ = H7 at s7 ⊢
      have C7 := CH.same s7
      have O7 := OH.same s7
      refine ⟨_, g3, _, g4, o, n', e', [], z, rfl, O7, .inr ⟨by decide, kz, fun t H8 but hen => ⟨rfl, _, rfl, ?_⟩⟩⟩
      have O8 := O7.grow but hen
      have C8 := C7.but O7.en nee but
      obtain ⟨d8, ho8⟩ := O8.at_
      obtain ⟨d9, hc8⟩ := C8.at_
      refine ⟨_, g3, o, d8, _, rfl, ho8, ⟨o, n', e', [] ++ [t], rfl, O8, 1, rfl, by decide, rfl, _, rfl, ?_⟩⟩
      refine ⟨_, g2, c, d9, _, rfl, hc8, ⟨c, n, e, es, rfl, C8, es.length, rfl, by omega, rfl, ?_⟩⟩
      rw [hes]
      exact hQ _
end
end K98
set_option Elab.async false
set_option linter.all false
set_option maxRecDepth 100000
set_option maxHeartbeats 4000000
namespace K98
open PySem PySem.Spec PyProof.Rows L2
theorem fnm : d__is_line ∈ ask.fn ∧ d__pieces ∈ ask.fn ∧ d__shape ∈ ask.fn ∧ d_read_line ∈ ask.fn ∧ d_Reply___init__ ∈ ask.fn ∧ d_reply_to ∈ ask.fn ∧ d_Console___init__ ∈ ask.fn ∧ d_Console___len__ ∈ ask.fn ∧ d_Console___iter__ ∈ ask.fn ∧ d_Console_enter ∈ ask.fn ∧ d_Console_names ∈ ask.fn ∧ d__law_state ∈ ask.fn ∧ d__law_take ∈ ask.fn ∧ d__law_enter ∈ ask.fn ∧ d_law ∈ ask.fn := by
  simp [ask, fn, fn0]
theorem facts {w : World} {K : PySem.W.Frag} {h : Heap} {mg : Str → Option Value} {f : Addr} (X : K.In h) (G : h.Ns mainGlobals mg) (hfa : mg ("law" : Str) = some (.ref f)) (c : HS.Says R.prog ask w.params K) :
    ∃ fd : FuncData, (∀ (s : Shared) (v : Value), BindsTo s fd ⟨[v], []⟩ [("script", v)]) ∧ ∀ base : Heap, K.In base → base.Ns mainGlobals mg → FnOk R.prog w K mg base CX0 6 f fd ["script"] (spLaw K) := by
  obtain ⟨m1, m2, m3, m4, m5, m6, m7, m8, m9, m10, m11, m12, m13, m14, m15⟩ := fnm
  obtain ⟨fd1, F1⟩ := c.def_ m1
  obtain ⟨fd2, F2⟩ := c.def_ m2
  obtain ⟨fd3, F3⟩ := c.def_ m3
  obtain ⟨fd4, F4⟩ := c.def_ m4
  obtain ⟨fd5, F5⟩ := c.def_ m5
  obtain ⟨fd6, F6⟩ := c.def_ m6
  obtain ⟨fd7, F7⟩ := c.def_ m7
  obtain ⟨fd8, F8⟩ := c.def_ m8
  obtain ⟨fd9, F9⟩ := c.def_ m9
  obtain ⟨fd10, F10⟩ := c.def_ m10
  obtain ⟨fd11, F11⟩ := c.def_ m11
  obtain ⟨fd12, F12⟩ := c.def_ m12
  obtain ⟨fd13, F13⟩ := c.def_ m13
  obtain ⟨fd14, F14⟩ := c.def_ m14
  obtain ⟨fd, F⟩ := c.def_ m15
  have TR := c.supd (d := ⟨"Refused", "reason", "Refused.__init__", _⟩) (.head _) HS.supN_reason
  have TN := c.supd (d := ⟨"NoText", "at", "NoText.__init__", _⟩) (.tail _ (.head _)) HS.supN_at
  obtain ⟨es, n, KD⟩ := c.dict (d := ("SHAPES", ["cycle", "pairs", "classes", "constants", "table", "normal"])) (.head _)
  have glo : ∀ x : Str, He.Fa.glo x ∈ fa → mg x = some (.ref (He.ga K x)) := fun x hx => He.glo_ok X G (c.fact hx)
  have free : ∀ x : Str, He.Fa.free x ∈ fa → mg x = none := fun x hx => He.free_ok X G (c.fact hx)
  have noat : ∀ x y : Str, He.Fa.noat x y ∈ fa → PySem.W.findIn K (.ref (He.ga K x)) y = some none := fun x y hx => He.eqO_ok (c.fact hx)
  have meth : ∀ x y : Str, He.Fa.meth x y ∈ fa → Meth K (He.ga K x) y (He.ma K (He.ga K x) y) := fun x y hx => He.meth_ok (c.fact hx)
  obtain ⟨hx0, hx1, hq⟩ : xfB K (He.ga K "Refused") = true ∧ xfB K (He.ga K "NoText") = true ∧ PySem.W.nsIn K (He.ga K "SHAPES") "?" = some none := by
    have m := c.parts.2.2.2
    obtain ⟨m1, m2⟩ := He.ba (show (xfB K (He.ga K "Refused") && (xfB K (He.ga K "NoText") && He.eqO (PySem.W.nsIn K (He.ga K "SHAPES") "?") (some none))) = true from m)
    obtain ⟨m3, m4⟩ := He.ba m2
    exact ⟨m1, m3, He.eqO_ok m4⟩
  have e := hfa.symm.trans (glo "law" (by simp [fa, fa0, fa1, fa2]))
  cases e
  have b := FunD.bindsA (ps := ["script"]) F fun _ _ _ _ _ _ us hl => match us, hl with | [_], _ => rfl
  obtain ⟨tm, gM⟩ := He.int_ok X G (x := "MOST_LINE") (i := 2000) (c.fact (show He.Fa.int "MOST_LINE" 2000 ∈ fa by simp [fa, fa0, fa1, fa2]))
  have cR : Cls K (He.ga K "Reply") := He.cls_ok (x := "Reply") (c.fact (show He.Fa.cls "Reply" ∈ fa by simp [fa, fa0, fa1, fa2]))
  have cC : Cls K (He.ga K "Console") := He.cls_ok (x := "Console") (c.fact (show He.Fa.cls "Console" ∈ fa by simp [fa, fa0, fa1, fa2]))
  have MR : Mk K (He.ga K "Reply") (He.ma K (He.ga K "Reply") "__init__") := He.mkr_ok (x := "Reply") (c.fact (show He.Fa.mkr "Reply" ∈ fa by simp [fa, fa0, fa1, fa2]))
  have MC : Mk K (He.ga K "Console") (He.ma K (He.ga K "Console") "__init__") := He.mkr_ok (x := "Console") (c.fact (show He.Fa.mkr "Console" ∈ fa by simp [fa, fa0, fa1, fa2]))
  have n1 : NoAttr K (He.ga K "Reply") "kind" := noat "Reply" "kind" (by simp [fa, fa0, fa1, fa2])
  have n2 : NoAttr K (He.ga K "Reply") "text" := noat "Reply" "text" (by simp [fa, fa0, fa1, fa2])
  have T : ConT K (He.ga K "Console") := ⟨cC, noat "Console" "_most" (by simp [fa, fa0, fa1, fa2]), noat "Console" "_names" (by simp [fa, fa0, fa1, fa2]), noat "Console" "_entries" (by simp [fa, fa0, fa1, fa2])⟩
  have ex1 := He.exm_ok (x := "Refused") (y := "Refused") (b := true) (c.fact (show He.Fa.exm "Refused" "Refused" true ∈ fa by simp [fa, fa0, fa1, fa2]))
  have ex2 := He.exm_ok (x := "NoText") (y := "NoText") (b := true) (c.fact (show He.Fa.exm "NoText" "NoText" true ∈ fa by simp [fa, fa0, fa1, fa2]))
  have gU := free "super" (by simp [fa, fa0, fa1, fa2])
  have gL := free "len" (by simp [fa, fa0, fa1, fa2])
  have gN := glo "NoText" (by simp [fa, fa0, fa1, fa2])
  have gF := glo "Refused" (by simp [fa, fa0, fa1, fa2])
  refine ⟨fd, fun s v => b s [v] rfl, fun base _ _ => ?_⟩
  have G4 := ok_read (P := R.prog) (w := w) (mg := mg) (base := base) F4 F1 F2 F3 TN gU gN (glo "SHAPES" (by simp [fa, fa0, fa1, fa2])) KD hq (free "isinstance" (by simp [fa, fa0, fa1, fa2])) (free "str" (by simp [fa, fa0, fa1, fa2])) gL (free "ord" (by simp [fa, fa0, fa1, fa2])) gM (glo "_is_line" (by simp [fa, fa0, fa1, fa2])) (glo "_pieces" (by simp [fa, fa0, fa1, fa2])) (glo "_shape" (by simp [fa, fa0, fa1, fa2]))
  have G6 := ok_reply (fN := 0) (P := R.prog) (w := w) (mg := mg) (base := base) F6 F4 G4 F5 cR n1 n2 MR (glo "read_line" (by simp [fa, fa0, fa1, fa2])) (glo "Reply" (by simp [fa, fa0, fa1, fa2])) gN (free "str" (by simp [fa, fa0, fa1, fa2])) ex2 (xfB_ok hx1) (noat "NoText" "at" (by simp [fa, fa0, fa1, fa2]))
  have M10 := meth "Console" "enter" (by simp [fa, fa0, fa1, fa2])
  have M11 := meth "Console" "names" (by simp [fa, fa0, fa1, fa2])
  have M8 := meth "Console" "__len__" (by simp [fa, fa0, fa1, fa2])
  have M9 := meth "Console" "__iter__" (by simp [fa, fa0, fa1, fa2])
  have G10 := ok_ce (P := R.prog) (w := w) (mg := mg) (base := base) F10 T cR n1 F6 G6 TR gU gF (glo "reply_to" (by simp [fa, fa0, fa1, fa2])) gL
  have G14 := ok_le (P := R.prog) (w := w) (mg := mg) (base := base) F14 T F10 G10 M10 gF ex1 (xfB_ok hx0) (noat "Refused" "reason" (by simp [fa, fa0, fa1, fa2]))
  exact ok_law F ⟨_, _, F12, glo "_law_state" (by simp [fa, fa0, fa1, fa2]), _, _, F13, glo "_law_take" (by simp [fa, fa0, fa1, fa2]), _, _, F14, glo "_law_enter" (by simp [fa, fa0, fa1, fa2]), G14, _, _, F7, MC, glo "Console" (by simp [fa, fa0, fa1, fa2]), _, _, F8, ⟨M8.at_, M8.fn⟩, _, _, F9, ⟨M9.at_, M9.fn⟩, _, _, F11, M11, T,
    free "int" (by simp [fa, fa0, fa1, fa2]), free "abs" (by simp [fa, fa0, fa1, fa2]), gL, free "range" (by simp [fa, fa0, fa1, fa2]), free "iter" (by simp [fa, fa0, fa1, fa2]), free "dict" (by simp [fa, fa0, fa1, fa2])⟩
end K98
open PySem PySem.W PySem.Calls PyProof.Rows
theorem PySem.Challenge.cw_characterroads_k98_lines_as_many_as_told_holds : PySem.Challenge.rw_characterroads_k98_lines_as_many_as_told.Holds := by
  w_on; o_law
  refine HandSHeadRun.head_imp (r := OpenLaw.row PySem.Challenge.rw_characterroads_k98_lines_as_many_as_told) (q := view (OpenLaw.row PySem.Challenge.rw_characterroads_k98_lines_as_many_as_told).prog [0, 124]) (H := K98.hk) (ob := K98.ob) (M := 20000) (loose := K98.names) (d := HandSHeadRun.topDef (OpenLaw.row PySem.Challenge.rw_characterroads_k98_lines_as_many_as_told).prog 124) (kwd := []) K98.ob_eq K98.run (by kernel_rfl) (by kernel_rfl) (by kernel_rfl) (by rfl) (by first | assumption | decide +kernel) (by decide +kernel) ⟨rfl, rfl, rfl, rfl, rfl, by decide +kernel⟩ ?hw ?hc
  case hw => w_witness2
  case hc =>
    refine L2.walk_ofE (l := PySem.Challenge.rw_characterroads_k98_lines_as_many_as_told) (n := 63) (k := 6) (x := "script") (CX := L2.CX0) rfl (by decide) (by kernel_rfl) ⟨rfl, by decide, by decide⟩ ?F (fun _ _ _ _ z => z)
    intro w mg fa h Y G hmg0
    obtain ⟨K, KX, c⟩ := Y
    have hmg : mg ("law" : PySem.Str) = some (.ref fa) := by
      have e : (HandSHeadRun.topDef (OpenLaw.row PySem.Challenge.rw_characterroads_k98_lines_as_many_as_told).prog 124).name = ("law" : PySem.Str) := by kernel_rfl
      rw [← e]
      exact hmg0
    obtain ⟨fd, hb, hF⟩ := K98.facts (w := w) KX G hmg c
    exact ⟨K, fd, K98.spLaw K, KX, hb, fun H a ns hl _ hS => ⟨a, ns, rfl, hS, fun _ => rfl⟩, hF⟩
