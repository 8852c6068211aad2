import PyProof.Rows.All
import Wide.All
import OpenK.AllK
import Wide.FinOn
import PyProof.IsiH_set
import PyProof.FactsAll.object
import KE.KIsAll
import HandS.IsInst
import HandS.ForMost
import HandS.ExcInit
import KE.KExcSuper
import HandS.ExcField
import HandS.ExcIs
import HandS.ExcValue
import KE.KExcIs
import HandS.Defaults
import KE.KDictWalk
import KE.DataEq
import KE.DataCmp
import KE.DataIsa
import PyProof.ReprRoads
import HandS.Wide
import HandS.Flow
import HandS.Style
import HandS.TupAny
import HandS.TupMul
import HandS.WideBits
import HandS.StrMore
import HandS.SortInts
import HandS.Small
import HandS.Comp
import HandS.Zip
import HandS.WordsExc
import PyProof.Rows.StrOr
import HandS.RaiseMore
import PyProof.ListStr
import KE.SortData
import HandS.Text
import HandS.Dict
import PyProof.ReprBulk
import HandS.Ends
import HandS.EndBits
import HandS.Head0
import HandS.Head1
import HandS.Head2
import HandS.HeadEnd
import HandS.HeadHook1
import HandS.HeadHook2
import KE.DataAny
import HandS.Conv
import PyProof.Rows.OwnEval
import HandS.TupSets
import HandS.JoinGen
import PySem.Challenge.RW_eversame_k18_whole_falling_products
set_option Elab.async false
set_option linter.all false
set_option maxRecDepth 100000
set_option maxHeartbeats 0
/-! FK: isinstance of a def's object. -/
namespace PySem
open Sem (wp)
namespace FK
theorem slot_ga : Slot "function" "__getattribute__" "object.__getattribute__" :=
  .of (owner := "object") (n := "__getattribute__") (by rw [typeLookup_type, builtinLookup_eq_fast]; kernel_rfl) (by decide +kernel) (by decide +kernel) (by decide +kernel)
    (by first | exact .inl (by decide +kernel) | exact .inr (by decide +kernel)) (by rw [isSubtype_type]; kernel_rfl)
theorem lk_class : typeLookup (.type "function") "__class__" = pure (some (.builtin "object.__class__")) := by rw [typeLookup_type, builtinLookup_eq_fast]; kernel_rfl
theorem sub_class_owner : isSubtype (.type "function") (.type (".".intercalate ("object.__class__".cutAt '.').dropLast)) = pure true := by
  rw [F.owner_object_class, isSubtype_type]; kernel_rfl
end FK
section
variable {prog : Program} {w : World} {A : Around} {E : Value → Shared → Prop} {h : Heap} {g : Array GenState} {d : Drawn} {t : Nat} {os : OsState} {a : Addr} {o : Obj}
theorem fk_get {R : Result → Shared → Prop} (hx : h.get? a = some o) (hc : o.cls = .type "function") (hq : R (.ok (.ret (.type "function"))) ⟨h, g, d, t, os⟩) :
    codeAny (model prog w) A (.call (.builtin "getset_descriptor.__get__") ⟨[.builtin "object.__class__", .ref a, .type "function"], []⟩) R ⟨h, g, d, t, os⟩ := by
  have hT : (⟨h, g, d, t, os⟩ : Shared).TypeIs (.ref a) "function" := ⟨_, hx, hc⟩
  have hT5 : (⟨h, g, d, t, os⟩ : Shared).TypeIs (.builtin "object.__class__") "getset_descriptor" := F.typeOf_object_class
  have f8 := FK.sub_class_owner
  refine codeAny_call_builtin F.slot_gs_get.plain F.entry_gs_get (F.slot_gs_get.check _ _ _ _ _ _ _ _ hT5 (F.args_gs_get _ _ _) ?_)
  repeat (any_goals (first | assumption | wp_step))
  refine ⟨Code.quiet_builtin _ (by decide +kernel), codeAny_builtin F.entry_object_class ?_⟩
  repeat (any_goals (first | assumption | wp_step))
theorem fk_entry {tk : Tok} {Q : Fin → Shared → Prop} (hx : h.get? a = some o) (hc : o.cls = .type "function") (hq : Q (.done (.ret (.type "function"))) ⟨h, g, d, t, os⟩) :
    wpAny (model prog w) A (Builtin.«object.__getattribute__» ⟨[.ref a, .str "__class__" tk], []⟩) Q E ⟨h, g, d, t, os⟩ := by
  have hT : (⟨h, g, d, t, os⟩ : Shared).TypeIs (.ref a) "function" := ⟨_, hx, hc⟩
  have hT5 : (⟨h, g, d, t, os⟩ : Shared).TypeIs (.builtin "object.__class__") "getset_descriptor" := F.typeOf_object_class
  have f4 := FK.lk_class
  have f5 := F.typeOf_object_class
  have f6 := F.slot_gs_get.lookup
  have f7 := F.slot_gs_set.lookup
  repeat (any_goals (first | assumption | wp_step))
  refine fk_get hx hc ?_
  repeat (any_goals (first | assumption | wp_step))
theorem fk_call {tk : Tok} {R : Result → Shared → Prop} (hx : h.get? a = some o) (hc : o.cls = .type "function") (hq : R (.ok (.ret (.type "function"))) ⟨h, g, d, t, os⟩) :
    codeAny (model prog w) A (.call (.builtin "object.__getattribute__") ⟨[.ref a, .str "__class__" tk], []⟩) R ⟨h, g, d, t, os⟩ :=
  codeAny_call_builtin FK.slot_ga.plain F.entry_object_getattribute (FK.slot_ga.check _ _ _ _ _ _ _ _ (show (⟨h, g, d, t, os⟩ : Shared).TypeIs (.ref a) "function" from ⟨_, hx, hc⟩) (F.args_object_getattribute_2 _ _) (fk_entry hx hc hq))
theorem fk_by {tk : Tok} {Q : Value → Shared → Prop} (hx : h.get? a = some o) (hc : o.cls = .type "function") (hq : Q (.type "function") ⟨h, g, d, t, os⟩) : wpAny (model prog w) A (getAttrBy (.ref a) (.str "__class__" tk) false) Q E ⟨h, g, d, t, os⟩ := by
  have hT : (⟨h, g, d, t, os⟩ : Shared).TypeIs (.ref a) "function" := ⟨_, hx, hc⟩
  have f2 := FK.slot_ga.lookup
  have f3 := FK.slot_ga.bind (.ref a)
  repeat (any_goals (first | assumption | wp_step))
  refine fk_call hx hc ?_
  repeat (any_goals (first | assumption | wp_step))
theorem fk_attr {Q : Option Value → Shared → Prop} (hx : h.get? a = some o) (hc : o.cls = .type "function") (hq : Q (some (.type "function")) ⟨h, g, d, t + 1, os⟩) : wpAny (model prog w) A (getAttr? (.ref a) "__class__") Q E ⟨h, g, d, t, os⟩ := by
  unfold getAttr? getAttrBy?
  repeat (any_goals (first | assumption | with_reducible apply fk_by hx hc | wp_step))
end
theorem fk_kit {K : W.Frag} {a : Addr} : W.KitX K (.ref a) (.type "function") (W.KitAt a "function") := W.kitx_of W.kitAt_ty (fun {_ _ _ _ _ s} p k => by obtain ⟨h, g, d, t, os⟩ := s; obtain ⟨o, h1, h2⟩ := p; exact fk_attr h1 h2 k)
end PySem
/-! EX1: an own exception class, and its subclasses, whose __init__ says super().__init__(value); self.value = value: the walk of __init__, and of the making. -/
namespace SEX
open PySem PySem.W PySem.Calls PyProof.Rows PySem.HandSPX
def iA (p1 p2 : Pos) : Arguments := { posonlyargs := [], args := [{ arg := "self", annotation := none, pos := p1 }, { arg := "value", annotation := none, pos := p2 }], vararg := none, kwonlyargs := [], kw_defaults := [], kwarg := none, defaults := [] }
def iB (q1 q2 q3 q4 q5 q6 q7 q8 q9 q10 : Pos) : List Stmt := [.Expr (.Call (.Attribute (.Call (.Name "super" q1) [] [] q2) "__init__" q3) [.Name "value" q4] [] q5) q6, .Assign [.Attribute (.Name "self" q7) "value" q8] (.Name "value" q9) q10]
def iS : Scope := { kind := .function, names := [(PySem.Str.ofString "self", .local), (PySem.Str.ofString "value", .local), (PySem.Str.ofString "__class__", .free), (PySem.Str.ofString "super", .globalImplicit)], isGenerator := false, isCoroutine := false, more := [] }
/-- what the written part says of the class that has __init__, at D, and of its __init__, at fI -/
structure SeTxt (prog : Program) (K : Frag) (qual : Str) (D fI : Addr) : Prop where
  fn : ∃ (oc : Value) (od : Option Addr) (doc pm : Value) (an : Option Addr) (cda cc : Addr) (ct : Value) (osl : Array (Option Value)) (p1 p2 q1 q2 q3 q4 q5 q6 q7 q8 q9 q10 : Pos),
    (q3.endLine == q5.line) = true ∧ K.lookup fI = some ⟨oc, od, .func (ksFn "__init__" qual (iA p1 p2) (iB q1 q2 q3 q4 q5 q6 q7 q8 q9 q10) iS .none .none doc pm an (.ref cda) ct cc), osl⟩ ∧ codeIn K (.ref cda) qual = true ∧
    (∃ (ccl : Value) (cdd : Option Addr) (vs : Array Value) (ccs : Array (Option Value)) (file : Str) (tf : Tok), K.lookup cda = some ⟨ccl, cdd, .fields vs, ccs⟩ ∧ vs[2]? = some (.str file tf) ∧ ((prog.main.file : Str) == file) = true) ∧
    ∃ (cl : Value) (cld : Option Addr) (csl : Array (Option Value)), K.lookup cc = some ⟨cl, cld, .cell (some (.ref D)), csl⟩
  hD : (clsIn K D).isSome = true
  top : (prog.main.scope.names.lookup ("super" : Str)).isSome = false
  op : nsIn K cStatics "thirdparty.any" = some none
/-- what it says of a class that is raised, at C -/
structure SeCls (K : Frag) (D fI C : Addr) : Prop where
  cls : ∃ nm q N bs bm sn sub ab col dd k0 k1 k2 k3 k5, K.lookup C = some (excClassObj nm q C N bs bm true sn sub ab col dd k0 k1 k2 k3 k5 "ValueError.__new__") ∧ refsVE bm = true
  sa : findIn K (.ref C) "__setattr__" = some (some (.builtin "object.__setattr__"))
  noV : findIn K (.ref C) "value" = some none
  iC : findIn K (.ref C) "__init__" = some (some (.ref fI))
  tI : typeIn K (.ref fI) = some (.type "function")
  kC : keepIn K (.ref C) = true
  exC : subIn K (.ref C) (.type "BaseException") = some true
  veC : subIn K (.ref C) (.type "ValueError") = some true
  tyC : typeIn K (.ref C) = some (.type "type")
  mD : mroIn K C (.ref D) = some true
  su : ks_superIn K C D "__init__" = some (some (.builtin "ValueError.__init__"))
/-- what __init__ leaves of a fresh exception at x -/
structure InitEnd (h h' : Heap) (x C dx : Addr) (v : Value) : Prop where
  keep : ∀ b o, b ≠ x → h.get? b = some o → h'.get? b = some o
  obj : ∃ t1 : Addr, h'.get? x = some { cls := .ref C, dict := some dx, data := .fields #[.ref t1, .none, .none, .none, .bool false, .none] }
  dbig : h.objs.size ≤ dx
  dne : dx ≠ x
  ns : h'.Ns1 dx (fun y => if y = "value" then some v else none)
section
variable {prog : Program} {w : World} {A : Around} {E : Value → Shared → Prop} {R : Result → Shared → Prop} {s : Shared} {K : Frag} {mg mb : Str → Option Value} {qual : Str} {D C fI : Addr}
theorem mcpos {few : Bool} {o : Expr} {env : Env} {apos pos : Pos} (h : (apos.endLine == pos.line) = true) : methodCallPos few o env apos pos = pure pos := by
  unfold methodCallPos
  rw [h, Bool.or_true, if_pos rfl]
theorem mceval {env : Env} {args : List Expr} {name : Str} {apos pos : Pos} {p1 p2 : Pos} {x : Str} (h : (apos.endLine == pos.line) = true) (hf : methodCallForm args.length (backTo pos (starEach args env)) [] = true) : eval (.Call (.Attribute (.Call (.Name x p1) [] [] p2) name apos) args [] pos) env = (do
      let ov ← attributeBase (.Call (.Name x p1) [] [] p2) name env (eval (.Call (.Name x p1) [] [] p2) env)
      standAt apos.atName
      let (f, first) ← holding [ov] (getMethod ov name (do return (← importBound (.Call (.Name x p1) [] [] p2) env).getD true))
      callWith pos f first (backTo pos (starEach args env)) []) := by
  show (do
    let ov ← attributeBase (.Call (.Name x p1) [] [] p2) name env (eval (.Call (.Name x p1) [] [] p2) env)
    standAt apos.atName
    methodCall (.Call (.Name x p1) [] [] p2) name apos pos env ov args.length (backTo pos (starEach args env)) []) = _
  unfold methodCall
  rw [mcpos h, hf]
  rfl
/-- the built-in __init__ bound to a fresh exception, called -/
theorem call_mw {h : Heap} {g : Array GenState} {d : Drawn} {t : Nat} {os : OsState} {u e t0 : Addr} {rest : List Value} {Q : Value → Shared → Prop} {nm q : Str} {N : Addr} {bs bm : List Value} {sn : List Str} {sub : List Value} {ab : Bool} {col : Option Bool} {dd : Option Addr} {k0 k1 k2 k3 k5 : Option Value}
    (hC : h.get? C = some (excClassObj nm q C N bs bm true sn sub ab col dd k0 k1 k2 k3 k5 "ValueError.__new__")) (he : h.get? e = some (excO C t0)) (hu : h.get? u = some (kxs_mw "ValueError.__init__" e)) (hrest : rest.length ≤ sizeLine)
    (hq : ∀ h' t1, (∀ b o, b ≠ e → h.get? b = some o → h'.get? b = some o) → h'.get? e = some (excO C t1) → Q .none ⟨h', g, d, t, os⟩) :
    wpAny (model prog w) A (call (.ref u) rest) Q E ⟨h, g, d, t, os⟩ := by
  refine wpAny_call (codeAny_of_tree ?_)
  show wpAny _ A.in1 (callAny (.ref u) ⟨rest, []⟩) _ _ _
  simp only [callAny]
  refine wpAny_bind (wpAny_load hu ?_)
  simp only [kxs_mw, show (Value.type "method-wrapper" == Value.type "method" || Value.type "method-wrapper" == Value.type "builtin_function_or_method" || Value.type "method-wrapper" == Value.type "method-wrapper") = true by decide, if_true]
  refine W.KFB.if_so (by decide) ?_
  refine wpAny_bind (check_bound_init F.excBase_ValueError.toExcCallFacts hC he rfl ?_)
  refine wpAny_bind (wpAny_pure (wpAny_pure ?_))
  refine ⟨Code.quiet_builtin _ (by decide +kernel), codeAny_builtin F.excBase_ValueError.initEntry ?_⟩
  rw [Around.under_plainId F.excBase_ValueError.init.plain _]
  wp_walk
  refine hq _ h.objs.size (fun b o hb ho => ?_) ?_
  · rw [Heap.get?_update_other _ _ (Ne.symm hb)]
    exact Heap.get?_push_of_some _ ho
  · rw [Heap.get?_update_self _ (Heap.get?_push_of_some _ he) rfl]
    rfl
theorem one_size (v : Value) : [v].length ≤ sizeLine := by
  rw [sizeLine_eq]
  exact (by decide : 1 ≤ 16777216)
theorem se_init (T : SeTxt prog K qual D fI) (TC : SeCls K D fI C) {x t0 : Addr} {v : Value} (X : K.In s.heap) (hlim : s.heap.NoLimit) (hg : s.heap.Ns mainGlobals mg) (hms : mg "super" = none) (hb : s.heap.Ns builtinsNs mb) (hmb : mb "super" = bootBuiltins "super")
    (hx : s.heap.get? x = some (excO C t0)) (hnx : K.lookup x = none) (hroom : A.depth < recursionLimit)
    (hq : ∀ h' tk dx, InitEnd s.heap h' x C dx v → R (.ok (.ret .none)) { s with heap := h', toks := tk }) :
    codeAny (model prog w) A (.call (.ref fI) ⟨[.ref x, v], []⟩) R s := by
  obtain ⟨⟨oc, od, doc, pm, an, cda, cc, ct, osl, p1, p2, q1, q2, q3, q4, q5, q6, q7, q8, q9, q10, hql, ho, hcd, ⟨ccl, cdd, vs, ccs, file, tf, hcda, hvs, hfile⟩, cl, cld, csl, hcc⟩, hDs, htop, hop⟩ := T
  obtain ⟨cdD, hD⟩ := Option.isSome_iff_exists.mp hDs
  obtain ⟨nm, q, N, bs, bm, sn, sub, ab, col, dd, k0, k1, k2, k3, k5, hC, hbm⟩ := TC.cls
  have hcl : clsIn K C = some { name := nm, bases := bs, mro := .ref C :: bm, ns := N, qualname := q, hasDict := true, slotNames := sn, subclasses := sub, abstract := ab, collection := col, hasDel := false } := by unfold clsIn; rw [hC] <;> rfl
  refine ks_codeAny_call_defAt (fd := ksFn "__init__" qual (iA p1 p2) (iB q1 q2 q3 q4 q5 q6 q7 q8 q9 q10) iS .none .none doc pm an (.ref cda) ct cc) (body := iB q1 q2 q3 q4 q5 q6 q7 q8 q9 q10) (binds := [("self", .ref x), ("value", v)]) hroom (X _ _ ho) rfl hlim (codeRec_of X hcd) rfl
    (BindsTo.of_eq (by first | rfl | with_unfolding_all rfl)) (show ∀ x ∈ iS.names, x.2 ≠ .cell by decide) (by intro y hy; first | (simp only [List.mem_cons, List.not_mem_nil, or_false] at hy; rcases hy with rfl | rfl <;> rfl)) (fun h₁ hn k => ?_) rfl rfl rfl
  have X₁ : K.In h₁ := X.keeps k
  have hx₁ := k _ _ hx
  have hvx : List.lookup ("self" : Str) ([(("self" : Str), Value.ref x), (("value" : Str), v)] : List (Str × Value)).reverse = some (Value.ref x) := by first | rfl | with_unfolding_all rfl | kernel_rfl
  have hvv : List.lookup ("value" : Str) ([(("self" : Str), Value.ref x), (("value" : Str), v)] : List (Str × Value)).reverse = some v := by first | rfl | with_unfolding_all rfl | kernel_rfl
  have hL : s.heap.objs.size < h₁.objs.size := hn.lt
  have hxL : s.heap.objs.size ≠ x := Nat.ne_of_gt (Heap.lt_size hx)
  obtain ⟨oD, hD1, hD2⟩ : ∃ oD, h₁.get? D = some oD ∧ oD.data = .cls cdD := by
    unfold clsIn at hD
    split at hD
    · rename_i c d cd' sl ho
      cases hD
      exact ⟨_, X₁ _ _ ho, rfl⟩
    · cases hD
  have hsu := TC.su
  unfold ks_superIn at hsu
  rw [hcl] at hsu
  -- super().__init__(value)
  refine ks_wpAt_execs_cons (ks_wpAt_Expr_any (ks_wpAt_MethodCall (he := mceval hql (by rfl)) ?_))
  refine ks_wpAt_super_base (env := callEnv (ksFn "__init__" qual (iA p1 p2) (iB q1 q2 q3 q4 q5 q6 q7 q8 q9 q10) iS .none .none doc pm an (.ref cda) ct cc) s.heap.objs.size fI) (by rfl) (by rfl) (by decide +kernel) rfl (X₁ _ _ ho) rfl (by rfl) rfl (X₁ _ _ hcda) rfl hvs hfile htop ?_
  refine ks_loadName_global (by rfl) (by rfl) (loadGlobal_builtin (hg.keeps k) hms (hb.keeps k) hmb ⟨rfl, ?_⟩)
  refine wpAny_loadName_free (by rfl) (by rfl) (by rfl) ⟨_, X₁ _ _ hcc, rfl⟩ ?_
  refine wpAny_loadName_local (by rfl) (by rfl) hn hvx ?_
  refine ks_wpAny_isType_cls hD1 hD2 ⟨rfl, ?_⟩
  refine ks_wpAny_call_super hD1 hD2 hx₁ rfl (fun c e => by cases e) (looks_mroIn X₁ TC.mD) (fun h₂ e₂ k₂ => ?_)
  have X₂ : K.In h₂ := X₁.keeps k₂
  have hx₂ := k₂ _ _ hx₁
  have I₂ : InstAt h₂ x (excO C t0) C none := ⟨hx₂, rfl, rfl, trivial⟩
  refine kxs_getMethod kxs_ValueError (h := h₂) e₂ (looks_opaque X₂ hop) (l₀ := .ref C :: bm) (fun A Q E s k q => wpAny_bind ((looks_clsIn X₂ hcl) A _ E s k (wpAny_pure q))) rfl X₂ hsu (I₂.type.andThen (looks_subIn X₂ TC.veC)) (ks_ne X₂ I₂ hcl) (by decide +kernel) ?_
  have k₃ : ∀ b o, h₂.get? b = some o → (h₂.push (kxs_mw "ValueError.__init__" x)).get? b = some o := fun b o e => Heap.get?_push_of_some _ e
  have e₃ : (h₂.push (kxs_mw "ValueError.__init__" x)).get? h₂.objs.size = some (kxs_mw "ValueError.__init__" x) := Heap.get?_push_at rfl rfl
  have hn₃ := (hn.keeps k₂).keeps k₃
  refine kxs_callWith (i := "ValueError.__init__") (x := x) (by rfl) (evalArgs_plain ?_)
  refine Calls.spliced_cons (wpAny_Name (wpAny_loadName_local (by rfl) (by rfl) hn₃ hvv ?_) (by decide))
  refine Calls.spliced_nil ⟨e₃, ?_⟩
  refine call_mw (h := h₂.push (kxs_mw "ValueError.__init__" x)) (X.keeps k |>.keeps k₂ |>.keeps k₃ |> fun Y => Y _ _ hC) (k₃ _ _ hx₂) e₃ (one_size v) fun h₄ t1 k₄ hx₄ => ?_
  have kk : ∀ b o, b ≠ x → s.heap.get? b = some o → h₄.get? b = some o := fun b o hb e => k₄ b o hb (k₃ _ _ (k₂ _ _ (k _ _ e)))
  have X₄ : K.In h₄ := fun a o e => kk a o (fun z => by rw [z, hnx] at e; cases e) (X a o e)
  have hn₄ := hn₃.at fun o e => k₄ _ _ hxL e
  -- self.value = value
  show PySem.wpAt _ _ _ (execs _ _) _ _ _
  refine ks_wpAt_execs_cons (ks_wpAt_Assign_Attr (wpAt_of_wpAny (wpAny_Name (wpAny_loadName_local (by rfl) (by rfl) hn₄ hvv ?_) (by decide))))
  refine wpAny_Name (wpAny_loadName_local (by rfl) (by rfl) hn₄ hvx ?_) (by decide)
  refine set_plain X₄ (ox := excO C t1) (od := none) ⟨hx₄, rfl, rfl, trivial⟩ TC.sa ?_
  refine exc_osa X₄ hx₄ hcl (show refsVE (.ref C :: bm) = true from hbm) rfl TC.noV (fun h₅ tk₅ dx k₅ dn dne hx₅ hn₅ => ?_)
  have z : s.heap.objs.size ≤ dx := by
    obtain ⟨o, es, ep, e, _⟩ := hn₄
    exact Nat.le_trans (Nat.le_of_lt (Heap.lt_size e)) dn
  show PySem.wpAt _ _ _ (execs _ _) _ _ _
  exact wpAt_of_wpAny (wpAny_execs_nil (hq h₅ tk₅ dx ⟨fun b o hb e => k₅ b o hb (kk b o hb e), ⟨t1, hx₅⟩, z, dne, hn₅⟩))
/-- a made exception of the class at C, with its value -/
structure OwnMade (h h' : Heap) (e C d : Addr) (v : Value) : Prop where
  keep : ∀ b o, h.get? b = some o → h'.get? b = some o
  new : h.objs.size ≤ e
  obj : ∃ oe vs, h'.get? e = some oe ∧ oe.cls = .ref C ∧ oe.dict = some d ∧ oe.data = .fields vs ∧ vs[1]? = some .none
  dbig : h.objs.size ≤ d
  dne : d ≠ e
  ns : h'.Ns1 d (fun y => if y = "value" then some v else none)
theorem se_made (T : SeTxt prog K qual D fI) (TC : SeCls K D fI C) {v : Value} (X : K.In s.heap) (hlim : s.heap.NoLimit) (hg : s.heap.Ns mainGlobals mg) (hms : mg "super" = none) (hb : s.heap.Ns builtinsNs mb) (hmb : mb "super" = bootBuiltins "super") (hroom : A.depth + 1 < recursionLimit)
    (hq : ∀ h' tk e d, OwnMade s.heap h' e C d v → R (.ok (.ret (.ref e))) { s with heap := h', toks := tk }) :
    codeAny (model prog w) A (.call (.ref C) ⟨[v], []⟩) R s := by
  obtain ⟨nm, q, N, bs, bm, sn, sub, ab, col, dd, k0, k1, k2, k3, k5, hC, hbm⟩ := TC.cls
  obtain ⟨hp, g, dr, tk, os⟩ := s
  have k : ∀ b o, hp.get? b = some o → ((hp.push (kdv_tup [v])).push (excO C hp.objs.size)).get? b = some o := fun b o e => Heap.get?_push_of_some _ (Heap.get?_push_of_some _ e)
  have hget : ((hp.push (kdv_tup [v])).push (excO C hp.objs.size)).get? (hp.objs.size + 1) = some (excO C hp.objs.size) := by heap_get
  have hnx : K.lookup (hp.objs.size + 1) = none := by
    cases e : K.lookup (hp.objs.size + 1) with
    | none => rfl
    | some o =>
      have z : hp.get? (hp.objs.size + 1) = some o := X _ _ e
      exact absurd (Nat.lt_of_succ_lt (Heap.lt_size z)) (Nat.lt_irrefl _)
  refine call_own F.excBase_ValueError (fun X => refsVE_contains X bm hbm) (X _ _ hC) (looks_findIn X TC.iC) (fun self => bind_fn X self TC.tI) (one_size v) ?_
  refine se_init (s := ⟨(hp.push (kdv_tup [v])).push (excO C hp.objs.size), g, dr, tk, os⟩) T TC (X.keeps k) (hlim.keeps k) (hg.keeps k) hms (hb.keeps k) hmb hget hnx ?_ fun h' tk' dx ⟨k', hx, dn, dne, hns⟩ => ?_
  · show A.depth + 1 < recursionLimit
    exact hroom
  · obtain ⟨t1, hx⟩ := hx
    have old : ∀ b o, hp.get? b = some o → h'.get? b = some o := fun b o e => k' b o (Nat.ne_of_lt (Nat.lt_succ_of_lt (Heap.lt_size e))) (k b o e)
    have z : hp.objs.size + 1 + 1 ≤ dx := by
      first
        | (simpa only [Heap.size_push] using dn)
        | exact dn
        | (have q := dn; rw [Heap.size_push, Heap.size_push] at q; exact q)
    exact ⟨rfl, hq h' tk' (hp.objs.size + 1) dx ⟨old, Nat.le_succ _, ⟨_, _, hx, rfl, rfl, rfl, rfl⟩, Nat.le_trans (Nat.le_trans (Nat.le_succ _) (Nat.le_succ _)) z, dne, hns⟩⟩
end
end SEX
namespace L2
open PySem PySem.Spec PyProof.Rows
theorem relO_val {v : V} {v' : Value} (r : RelV v v') (f : Str) : RelO (List.lookup f [(("value" : Str), v)]) (if f = "value" then some v' else none) := by
  by_cases hw : f = "value"
  · subst hw
    rw [if_pos rfl]
    have q : List.lookup ("value" : Str) [(("value" : Str), v)] = some v := by simp [List.lookup]
    rw [q]
    exact r
  · rw [if_neg hw]
    have qw : (f == ("value" : Str)) = false := by simpa using hw
    have q2 : List.lookup f [(("value" : Str), v)] = none := by simp [List.lookup, qw]
    rw [q2]
    trivial
section
variable {X : Cx} {C D fI : Addr} {qual : Str}
/-- C(e), e's value kept -/
def tMkS (C : Addr) (ta : TA) : St → Hp → XK → Prop := fun σ H Q => ta σ H fun vs H1 => ∃ v, vs = [v] ∧ ∀ d, H1 d = none → Q (.ref C) (some d) (upd H1 d (.xd [(("value" : Str), v)]))
theorem pmk_se {x : Str} {a : Expr} {ta : TA} {p pos : Pos} {k : Nat} (T : SEX.SeTxt X.prog X.K qual D fI) (TC : SEX.SeCls X.K D fI C) (gC : X.mg x = some (.ref C)) (hms : X.mg "super" = none) (hr : Room k X.A) (ha : PA X [a] ta) (hg : Gl X x)
    (hdb : (x == ("__debug__" : Str)) = false := by decide) (he : starEach (a :: []) X.env = (false, eval a X.env) :: starEach [] X.env := by rfl) (hpl : (backTo pos (starEach [] X.env)).any (·.1) = false := by rfl) :
    PMk X (.Call (.Name x p) [a] [] pos) (tMkS C ta) := by
  intro pins s σ H Q I h
  refine wpAny_Call_Name_kw (ld_glob I hg gC ?_ hdb)
  refine PySem.W.callWith_K (h₀ := X.base) I.ok.mod.kin TC.kC (thn (ha.run pos pins s σ H _ I h) fun us s1 hh => ?_) he hpl
  obtain ⟨vs, H1, I1, r1, v, ev, q1⟩ := hh
  subst ev
  refine ⟨I1.kIn, ?_⟩
  cases r1 with
  | cons rv rn =>
    rename_i v' us'
    cases rn
    show wpAny _ _ (call (.ref C) [v']) _ _ _
    have hlim := I1.nolimit
    obtain ⟨mb, hb1, hb2⟩ := I1.mod.blt
    have hglob := I1.mod.glob.keeps I1.bk
    have hblt := hb1.keeps I1.bk
    obtain ⟨hp, g, dr, tk, os⟩ := s1
    refine wpAny_call (SEX.se_made (mb := mb) T TC I1.kIn hlim hglob hms hblt (hb2 "super" (by decide)) (by have := hr.dp; omega) fun h' tk' e d M => ?_)
    show MkP X pins σ Q (.ref e) ⟨h', g, dr, tk', os⟩
    obtain ⟨oe, fv, hoe, hc, hd, hdat, h1⟩ := M.obj
    have hns := M.ns
    obtain ⟨G', g1, g2⟩ := restrict h' fun b => decide (b ≠ e)
    have gk : ∀ b, b ≠ e → G'.get? b = h'.get? b := fun b hb => g1 b (decide_eq_true hb)
    have ge : G'.get? e = none := g2 e (by simp)
    have old : ∀ b o, hp.get? b = some o → G'.get? b = some o := fun b o q => (gk b (Nat.ne_of_lt (Nat.lt_of_lt_of_le (Heap.lt_size q) M.new))).trans (M.keep b o q)
    have ob : ObjOk X.prog X.w (upd H1 d (.xd [(("value" : Str), v)])) G' d (.xd [(("value" : Str), v)]) :=
      ⟨_, hns.at (fun o q => (gk d M.dne).trans q), fun f => relO_val rv f⟩
    have J : Inv X pins σ (upd H1 d (.xd [(("value" : Str), v)])) ⟨G', g, dr, tk', os⟩ := I1.laid (t' := tk') old M.dbig ob
    refine ⟨e, oe, fv, ⟨G', g, dr, tk', os⟩, _, .ref C, some d, rfl, J, fun b o q => ?_, ge, hoe, ⟨hc, hd⟩, hdat, h1, ?_, rfl, I1.bare, raises_own TC.exC TC.tyC, q1 d (I1.hok.fresh M.dbig)⟩
    · by_cases hb : b = e
      · have q' : G'.get? b = some o := q
        rw [hb, ge] at q'; cases q'
      · exact (gk b hb).symm.trans q
    · rw [upd_ne (Ne.symm M.dne)]
      exact I1.hok.fresh M.new
end
end L2
/-! EX2: a caught exception that outlives its except suite: kept as a tracked object; its field, isinstance of it. -/
namespace L2
open PySem PySem.Spec PyProof.Rows
/-- a caught exception of the class cls, its dict d, at a -/
def exv (a : Addr) (cls : Value) (d : Option Addr) : HO := .ext fun h => ∃ (oe : Obj) (vs : Array Value), h.get? a = some oe ∧ Zc cls d oe ∧ oe.data = .fields vs
theorem exv_ok {P : Program} {w : World} {H : Hp} {h : Heap} {a : Addr} {cls : Value} {d : Option Addr} {oe : Obj} (e : h.get? a = some oe) (z : Zc cls d oe) (hd : ∃ vs, oe.data = .fields vs) : ObjOk P w H h a (exv a cls d) := by
  obtain ⟨vs, hd⟩ := hd
  exact ⟨⟨oe, vs, e, z, hd⟩, ⟨oe, e⟩, fun _ _ ⟨o, v, q, r⟩ k => ⟨o, v, k o q, r⟩⟩
section
variable {X : Cx} {pins : List (Addr × Obj)} {σ : St} {H : Hp} {s : Shared}
/-- an object that stands in the heap and is new is tracked from now on -/
theorem Inv.track {a : Addr} {o : HO} (I : Inv X pins σ H s) (na : H a = none) (n0 : X.s_0.heap.get? a = none) (nL : a ≠ X.env.locals) (nC : ∀ x c, X.env.cells.lookup x = some c → c ≠ a) (nP : ∀ p ∈ X.pn ++ pins, p.1 ≠ a) (new : ObjOk X.prog X.w (upd H a o) s.heap a o) : Inv X pins σ (upd H a o) s := by
  have ne0 : ∀ b u, X.s_0.heap.get? b = some u → b ≠ a := fun b u e z => by
    rw [z, n0] at e
    cases e
  refine ⟨I.ok, I.os, I.bare, ⟨I.base.keep, I.base.slot, fun b u e n hx => ?_, I.base.there, fun b xs e => ?_, fun b u v e => ?_, fun b ps e => ?_⟩, I.loc, I.cell, ?_, fun x c e => ?_, fun p hp => ?_, I.hok.laidN (fun _ _ q => q) na new, I.len⟩
  · rw [upd_ne (ne0 b u e)]
    exact I.base.free b u e n hx
  · have q := I.base.tups b xs e
    rw [upd_ne (ne_of_none q na)]
    exact q
  · have q := I.base.frzs b u v e
    rw [upd_ne (ne_of_none q na)]
    exact q
  · obtain ⟨m, q⟩ := I.base.tbls b ps e
    exact ⟨m, by rw [upd_ne (ne_of_none q na)]; exact q⟩
  · rw [upd_ne (Ne.symm nL)]
    exact I.free
  · rw [upd_ne (nC x c e)]
    exact I.freeC x c e
  · obtain ⟨e, n, ne, nf, d⟩ := I.pin p hp
    exact ⟨e, by rw [upd_ne (nP p hp)]; exact n, ne, nf, d⟩
end
/-- the catch: the exception is kept as a tracked object where the suite goes on -/
def wKp (K : PySem.W.Frag) (c : Value) (i : Nat) (ts : Addr → Value → Option Addr → TS) (Wout : WX) (D : Ends) : WX := fun cls d σ H =>
  ∃ b, PySem.W.exmOne K cls c = some b ∧ (b = true → ∀ a, H a = none → ts a cls d { nx := fun σ' H' => D.nx (σ'.set i none) (upd H' a (exv a cls d)), rt := D.rt, bk := fun σ' H' => D.bk (σ'.set i none) H', ct := fun σ' H' => D.ct (σ'.set i none) H' } (σ.set i (some (.ref a))) H) ∧
    (b = false → Wout cls d σ H)
section
variable {X : Cx} {x n : Str} {c : Value} {i : Nat} {body suite : List Stmt} {b₀ : Stmt} {np pos pos' : Pos} {tb : WX → TS} {ts : Addr → Value → Option Addr → TS} {Wout : WX}
theorem ps_try_keep (hex : X.ex = []) (hs : X.stack = X.env :: X.outer) (hf : X.env.frame = some X.env.locals) (hN : X.N.Nodup) (hi : X.N[i]? = some n) (hln : X.env.kindOf n = some .local) (hc : Names X x c) (tk : Takes X Wout)
    (hb : ∀ (W : WX) (pn : List (Addr × Obj)) (xe : Value → Shared → Prop), Takes (X.tr pn xe) W → PassesOwn (model X.prog X.w) X.A X.env xe → PSs (X.tr pn xe) body (tb W))
    (hsu : ∀ (a : Addr) (oe : Obj) (cls : Value) (d : Option Addr) (pn : List (Addr × Obj)), Zc cls d oe → (∃ vs, oe.data = .fields vs) → PSs (X.suite a ((a, oe) :: pn)) (b₀ :: suite) (ts a cls d)) :
    PS X (.Try body [.ExceptHandler (some (.Name x np)) (some n) (b₀ :: suite) pos'] [] [] pos) (fun D σ H => tb (wKp X.K c i ts Wout D) D σ H) := by
  refine ⟨fun pins s σ H D I h => ?_⟩
  have ok := I.ok
  have hfr : X.A.frames = some (X.env :: X.outer) := by rw [ok.frames, hs]
  have hloc : Loc X.env.scope n := .inl hln
  refine wpAny_Try_except ?_
  refine wpAny_mono ((hb (wKp X.K c i ts Wout D) (X.pn ++ pins) (fun e s₁ => wpAny (model X.prog X.w) X.A (noteFrame e X.env) (fun _ s₂ => wpAny (model X.prog X.w) X.A (setFlight e none) (fun _ s₃ =>
    wpAny (model X.prog X.w) X.A (handleBy e X.env [.ExceptHandler (some (.Name x np)) (some n) (b₀ :: suite) pos']) (SP X pins D) X.xe s₃) X.xe s₂) X.xe s₁) (fun u s' xx => ?_) PassesOwn.looking).run [] s σ H D (I.toTry _) h) (fun f s1 hsp => ?_) (fun e s1 he => he)
  · obtain ⟨a, B, sI, pins', σ', H', cls, d, rfl, J', nb, up, sky, na, os, ag, b, hb1, hyes, hno⟩ := xx
    have J : Inv X pins σ' H' sI := J'.ofTry ok
    have sky' : Sky B (X.env :: X.outer) a (Zc cls d) X.env.locals s'.heap := by rw [← hs]; exact sky
    show wpAny (model X.prog X.w) X.A (noteFrame (.ref a) X.env) _ _ _
    refine Sky.land Zc.steady hfr hf sky' fun h3 fl3 up3 => ?_
    have J3 : Inv X pins σ' H' { s' with heap := h3 } := J.landed nb fl3.1 (up.trans up3) os ag
    obtain ⟨oe3, vs3, he3, hz3, hd3⟩ := fl3.there
    have notFr : ∀ {h : Heap} {o : Obj} {vs : Array Value}, h.FunFrames B (X.env :: X.outer) → h.get? a = some o → o.data = .fields vs → a ∉ frs (X.env :: X.outer) := fun {h o vs} ff e dd hm => by
      obtain ⟨_, o', e', hnf⟩ := ff.mem hm
      rw [e] at e'; cases e'
      exact hnf _ dd
    have nfr := notFr fl3.2.2.1 he3 hd3
    have nL : a ≠ X.env.locals := fun z => nfr (List.mem_filterMap.mpr ⟨X.env, List.mem_cons_self, by rw [hf, z]⟩)
    have nF : a ∉ X.fs := fun hm => by
      obtain ⟨e, he, q⟩ := List.mem_filterMap.mp hm
      exact nfr (List.mem_filterMap.mpr ⟨e, List.mem_cons_of_mem _ he, q⟩)
    have nI : sI.heap.get? a = none := by
      cases q : sI.heap.get? a with
      | none => rfl
      | some o =>
        have z := nb a o q (by rw [hs]; exact nfr)
        rw [fl3.2.1] at z
        cases z
    have n0 : X.s_0.heap.get? a = none := by
      cases q : X.s_0.heap.get? a with
      | none => rfl
      | some o =>
        obtain ⟨o', z⟩ := J.base.there a o q (by rw [hex]; exact fun z => nomatch z)
        rw [nI] at z
        cases z
    have nP : ∀ p ∈ X.pn ++ pins, p.1 ≠ a := fun p hp z => by
      have q := (J.pin p hp).1
      rw [z, nI] at q
      cases q
    have nC : ∀ y c, X.env.cells.lookup y = some c → c ≠ a := fun y c e z => by
      obtain ⟨v, o, ho, _⟩ := J.cell y c e
      rw [z, nI] at ho
      cases ho
    have S3 := J3.suite he3 hd3 na nL nF
    refine wpAny_handleBy_cons (codeAny_handlers_test ?_) (by intro q; cases q)
    have LT : PySem.W.Looks (model X.prog X.w) h3 (typeOf (.ref a)) cls := fun A Q E s k q => wpAny_typeOf_ref (k _ _ he3) (by rw [hz3.1]; exact q)
    have LM := PySem.W.exm_one (M := model X.prog X.w) (J3.kIn) LT hb1
    have test : ∀ {Q : Value → Shared → Prop} {E : Value → Shared → Prop}, Q c { s' with heap := h3 } → wpAny (model X.prog X.w) (X.A.mark (some (.ref a))) (eval (.Name x np) X.env) Q E { s' with heap := h3 } := fun {Q E} q => by
      obtain ⟨hg, hdbg, hm | ⟨hm, hv, hnn⟩⟩ := hc
      · exact ld_glob (X := X.suite a ((a, oe3) :: (X.pn ++ pins))) S3 hg hm q hdbg
      · exact ld_blt (X := X.suite a ((a, oe3) :: (X.pn ++ pins))) S3 hg hm hv q hnn hdbg
    refine test (LM.here ?_)
    cases b with
    | true =>
      refine codeAny_handlers_suite_as ?_
      refine HandSPX.lands_againZ fl3 fun h4 fl4 up4 => ?_
      have J4 : Inv X pins σ' H' { s' with heap := h4 } := J.landed nb fl4.1 ((up.trans up3).trans up4) os ag
      obtain ⟨oe4, vs4, he4, hz4, hd4⟩ := fl4.there
      have S4 := J4.suite he4 hd4 na nL nF
      refine store_ok (X := X.suite a ((a, oe4) :: (X.pn ++ pins))) (v := .ref a) S4 hN hi hloc rfl (fun s5 S5 => ?_) (.inr hln)
      refine wpAny_mono ((hsu a oe4 cls d (X.pn ++ pins) hz4 ⟨_, hd4⟩).run [] s5 _ H' _ S5 (hyes rfl a na)) (fun f s6 hsp => ?_) (fun _ _ z => False.elim z)
      have end_ : ∀ {σ6 : St} {H6 : Hp} {Q : Shared → Prop}, Inv (X.suite a ((a, oe4) :: (X.pn ++ pins))) [] σ6 H6 s6 → (∀ s7, Inv X pins (σ6.set i none) H6 s7 → Q s7) →
          wpAny (model X.prog X.w) X.A (do bindName X.env n .none; unbindBehindTheSuite X.env n pos') (fun _ s7 => Q s7) X.xe s6 := fun {σ6 H6 Q} S6 hq => gone_ok (S6.unsuite ok) hN hi hln hq
      cases f with
      | next =>
        obtain ⟨σ6, H6, S6, q6⟩ := hsp
        obtain ⟨hp6, hn6, _⟩ := S6.pin (a, oe4) (List.mem_append_left _ List.mem_cons_self)
        exact gone_ok ((S6.unsuite ok).track hn6 n0 nL nC nP (exv_ok hp6 hz4 ⟨_, hd4⟩)) hN hi hln fun s7 J7 => ⟨_, _, J7, q6⟩
      | brk =>
        obtain ⟨σ6, H6, S6, q6⟩ := hsp
        exact end_ S6 fun s7 J7 => ⟨_, _, J7, q6⟩
      | cont =>
        obtain ⟨σ6, H6, S6, q6⟩ := hsp
        exact end_ S6 fun s7 J7 => ⟨_, _, J7, q6⟩
      | ret u =>
        obtain ⟨v6, σ6, H6, S6, r6, q6⟩ := hsp
        exact end_ S6 fun s7 J7 => ⟨_, _, _, J7, r6, q6⟩
    | false =>
      show wpAny _ X.A (handleBy (.ref a) X.env []) _ _ _
      refine wpAny_handleBy_nil ?_
      obtain ⟨k1, k2, k3, oe, vs, T, oT, ts', he, hz, hd, h1, hr⟩ := id fl3
      unfold PySem.passOn
      refine wpAny_bind (wpAny_field he hd h1 ?_)
      rw [if_neg (show ¬ ((Value.ref T == Value.none) = true) from by simp)]
      have fin : wpAny (model X.prog X.w) X.A (setFlight (.ref a) X.env.frame) (fun _ s4 => wpAny (model X.prog X.w) X.A (throw (.ref a) : Sem Flow) (SP X pins D) X.xe s4) X.xe { s' with heap := h3 } := by
        rw [hf]
        refine HandSPX.setFlight_upZ fl3 fun h4 hh4 up4 => wpAny_throw (tk _ _ ?_)
        exact ⟨a, B, sI, pins, σ', H', cls, d, rfl, J, nb, (up.trans up3).trans up4, .inr (.inr (by rw [hs]; exact hh4)), na, os, ag, hno rfl⟩
      first
        | exact wpAny_bind (wpAny_pure (wpAny_bind fin))
        | exact wpAny_bind fin
  · cases f with
    | next =>
      obtain ⟨σ', H', J, q⟩ := hsp
      exact wpAny_execs_nil ⟨σ', H', J.ofTry ok, q⟩
    | brk =>
      obtain ⟨σ', H', J, q⟩ := hsp
      exact ⟨σ', H', J.ofTry ok, q⟩
    | cont =>
      obtain ⟨σ', H', J, q⟩ := hsp
      exact ⟨σ', H', J.ofTry ok, q⟩
    | ret u =>
      obtain ⟨v, σ', H', J, r, q⟩ := hsp
      exact ⟨v, σ', H', J.ofTry ok, r, q⟩
/-- what the class of a kept exception says: its fields are read, isinstance asks it -/
structure KeC (K : PySem.W.Frag) (C : Addr) : Prop where
  f : XfC K C
  i : ExcC K C
  c : (PySem.W.clsIn K C).isSome = true
/-- e.f, e a kept exception -/
def tXk (K : PySem.W.Frag) (f : Str) (te : TE) : TE := fun σ H Q => te σ H fun x H1 => ∃ (a C dd : Addr) (fs : List (Str × V)) (v : V), x = .ref a ∧ KeC K C ∧ PySem.W.findIn K (.ref C) f = some none ∧ H1 a = some (exv a (.ref C) (some dd)) ∧ H1 dd = some (.xd fs) ∧ fs.lookup f = some v ∧ Q v H1
theorem exv_inst {P : Program} {w : World} {H : Hp} {h : Heap} {a C dd : Addr} {fs : List (Str × V)} (hok : HOk P w H h) (e : H a = some (exv a (.ref C) (some dd))) (ed : H dd = some (.xd fs)) :
    ∃ (oe od : Obj) (mA : Str → Option Value), PySem.W.InstAt h a oe C (some od) ∧ (∀ f, PySem.W.lookIn f od = some (mA f)) ∧ ∀ f, RelO (fs.lookup f) (mA f) := by
  have x : ObjOk P w H h a (.ext fun h => ∃ (oe : Obj) (vs : Array Value), h.get? a = some oe ∧ Zc (.ref C) (some dd) oe ∧ oe.data = .fields vs) := hok a _ e
  obtain ⟨⟨oe, vs, he, hz, hd⟩, _⟩ := x
  have y : ObjOk P w H h dd (.xd fs) := hok dd _ ed
  obtain ⟨mA, hns, hr⟩ := y
  obtain ⟨od, ho, hl⟩ := lookIn_ns hns
  exact ⟨oe, od, mA, ⟨he, hz.1, by unfold PySem.W.notCls; rw [hd] <;> rfl, by rw [hz.2]; exact ho⟩, hl, hr⟩
theorem pe_xk {e : Expr} {te : TE} {pos : Pos} {f : Str} (he : PE X e te) (hb : attributeBase e f X.env (eval e X.env) = eval e X.env := by rfl) : PE X (.Attribute e f pos) (tXk X.K f te) := by
  refine ⟨fun pins s σ H Q I h => ?_⟩
  refine attr_of hb (thn (he.run pins s σ H _ I h) fun u s1 hh => ?_)
  obtain ⟨x, H1, I1, rx, a, C, dd, fs, v, ex, T, hno, ea, ed, l, q⟩ := hh
  subst ex
  obtain rfl : u = Value.ref a := rx
  obtain ⟨oe, od, mA, J, hl, hr⟩ := exv_inst I1.hok ea ed
  obtain ⟨u, hu, ru⟩ := RelO.some_of (v := v) (o := mA f) (by rw [← l]; exact hr f)
  exact HandSPX.exc_get I1.kIn J T.f.ga T.f.gg T.f.exC (PySem.W.findObj_own T.f.hdC hno rfl (by rw [hl, hu])) (handed_of ru) ⟨v, H1, I1.tok _, ru, q⟩
/-- isinstance(e, c), e a kept exception -/
def rIsK (K : PySem.W.Frag) : List V → Hp → VK → Prop := fun xs H Q => ∃ (a C dd : Addr) (fs : List (Str × V)) (c : V) (cv : Value) (b : Bool), xs = [.ref a, c] ∧ KeC K C ∧ H a = some (exv a (.ref C) (some dd)) ∧ H dd = some (.xd fs) ∧ (∀ u, RelV c u → u = cv) ∧ PySem.W.kitOne K (.ref C) cv = some b ∧ Q (.bl b) H
theorem call_isK : CallR X (.builtin "isinstance") (rIsK X.K) := by
  intro pins s σ H xs us Q I r h
  obtain ⟨a, C, dd, fs, c, cv, b, rfl, T, ea, ed, hcv, e, q⟩ := h
  cases r with
  | cons rx rr =>
    cases rr with
    | cons rt rr =>
      cases rr
      cases rx
      have ec := hcv _ rt
      subst ec
      obtain ⟨oe, od, mA, J, _, _⟩ := exv_inst I.hok ea ed
      exact PySem.W.kia_one (PySem.W.kitx_exc T.c T.i.hg T.i.hk T.i.hs T.i.ha T.i.hn T.i.ht T.i.hm) I.kIn J e (fun z => nomatch z) fun tk => ⟨.bl b, H, I.kept (t' := tk) fun _ _ z => z, rfl, q⟩
end
end L2
/-! DL: a data layer over the hand layer. Values as plain data; lists that are changed in place as owned cells. -/
namespace DL
open PySem PySem.Spec PyProof.Rows L2

abbrev D := PyData
/-- owned cells: what stands in each (none: given up) -/
abbrev Cs := List (Option (List D))
/-- what an expression gives: data, an owned cell, a fresh list, a caught exception (its class's name, its value) -/
inductive Rv where
  | dat (d : D)
  | own (k : Nat)
  | fr (c : List D)
  | exn (nm : Str) (d : D)
  | ft (d : D)
  | gr (d : D) (k n : Nat)
/-- slots: none is no value -/
abbrev Rho := List (Option Rv)

def kD : Key → D
  | .inl i => .int i
  | .inr x => .str x

/-- a list: tracked, or one of the module's own objects -/
def LstAt (K : PySem.W.Frag) (H : Hp) (a : Addr) (xs : List V) : Prop := Rd H a (.lst xs) ∨ ∃ (its : List Value) (n : Nat), K.lookup a = some { cls := .type "list", data := .seq its.toArray n } ∧ xs.length ≤ sizeLine ∧ Vals xs its
theorem LstAt.sq {K : PySem.W.Frag} {H : Hp} {a : Addr} {xs : List V} (h : LstAt K H a xs) : SqL K H a xs := by
  rcases h with h | ⟨its, n, h1, h2, h3⟩
  · exact .inl h
  · exact .inr ⟨_, its.toArray, n, h1, rfl, rfl, rfl, by rw [List.size_toArray, ← h3.length]; exact h2, by simpa using h3⟩
/-- the module's def nm, as a value -/
def fnD (nm : Str) : D := .dict [(.none, .str nm)]
def isFn : List (D × D) → Bool
  | [(.none, .str _)] => true
  | _ => false
def FnAt (K : PySem.W.Frag) (nm : Str) (f : Addr) : Prop := PySem.W.nsIn K mainGlobals nm = some (some (.ref f)) ∧ PySem.W.typeIn K (.ref f) = some (.type "function")
mutual
inductive Rp (K : PySem.W.Frag) (H : Hp) : V → D → Prop
  | non : Rp K H .non .none
  | bl (b : Bool) : Rp K H (.bl b) (.bool b)
  | int (i : Int) : Rp K H (.int i) (.int i)
  | str (x : Str) (h : x.length ≤ sizeLine) : Rp K H (.str x) (.str x)
  | lst {a : Addr} {xs : List V} {ds : List D} : LstAt K H a xs → RpAll K H xs ds → Rp K H (.ref a) (.list ds)
  | tup {a : Addr} {xs : List V} {ds : List D} : SqT K H a xs → RpAll K H xs ds → Rp K H (.ref a) (.tuple ds)
  | dct {a : Addr} {o : Obj} {kvs : List (Key × V)} {ds : List (D × D)} : H a = some (.frz o (.dK kvs)) → kvs.map (fun p => kD p.1) = ds.map (·.1) → RpAll K H (kvs.map (·.2)) (ds.map (·.2)) → Rp K H (.ref a) (.dict ds)
  | fn {f : Addr} {nm : Str} : FnAt K nm f → Rp K H (.ref f) (.dict [(.none, .str nm)])
inductive RpAll (K : PySem.W.Frag) (H : Hp) : List V → List D → Prop
  | nil : RpAll K H [] []
  | cons {v : V} {vs : List V} {d : D} {ds : List D} : Rp K H v d → RpAll K H vs ds → RpAll K H (v :: vs) (d :: ds)
end

section
variable {K : PySem.W.Frag} {H H' : Hp}
theorem rd_mono (h : ∀ a o, H a = some o → H' a = some o) {a : Addr} {u : HO} (q : Rd H a u) : Rd H' a u := by
  rcases q with q | ⟨o, q⟩
  · exact .inl (h _ _ q)
  · exact .inr ⟨o, h _ _ q⟩
theorem sqT_mono (h : ∀ a o, H a = some o → H' a = some o) {a : Addr} {xs : List V} (q : SqT K H a xs) : SqT K H' a xs := q.imp (rd_mono h) id
theorem LstAt.mono (h : ∀ a o, H a = some o → H' a = some o) {a : Addr} {xs : List V} (q : LstAt K H a xs) : LstAt K H' a xs := q.imp (rd_mono h) id
mutual
theorem Rp.mono (h : ∀ a o, H a = some o → H' a = some o) : ∀ {v : V} {d : D}, Rp K H v d → Rp K H' v d
  | _, _, .non => .non
  | _, _, .bl b => .bl b
  | _, _, .int i => .int i
  | _, _, .str x q => .str x q
  | _, _, .lst q r => .lst (q.mono h) (RpAll.mono h r)
  | _, _, .tup q r => .tup (sqT_mono h q) (RpAll.mono h r)
  | _, _, .dct q e r => .dct (h _ _ q) e (RpAll.mono h r)
  | _, _, .fn q => .fn q
theorem RpAll.mono (h : ∀ a o, H a = some o → H' a = some o) : ∀ {vs : List V} {ds : List D}, RpAll K H vs ds → RpAll K H' vs ds
  | _, _, .nil => .nil
  | _, _, .cons a r => .cons (Rp.mono h a) (RpAll.mono h r)
end
theorem RpAll.length : ∀ {vs : List V} {ds : List D}, RpAll K H vs ds → vs.length = ds.length
  | _, _, .nil => rfl
  | _, _, .cons _ r => by rw [List.length_cons, List.length_cons, r.length]
theorem RpAll.get : ∀ {vs : List V} {ds : List D} {i : Nat} {d : D}, RpAll K H vs ds → ds[i]? = some d → ∃ v, vs[i]? = some v ∧ Rp K H v d
  | _, _, _, _, .nil, e => by simp at e
  | _, _, 0, _, .cons a _, e => by simp at e; subst e; exact ⟨_, rfl, a⟩
  | _, _, i + 1, d, .cons _ r, e => by
    obtain ⟨v, h1, h2⟩ := RpAll.get (i := i) (d := d) r (by simpa using e)
    exact ⟨v, by simpa using h1, h2⟩
theorem RpAll.get' : ∀ {vs : List V} {ds : List D} {i : Nat} {v : V}, RpAll K H vs ds → vs[i]? = some v → ∃ d, ds[i]? = some d ∧ Rp K H v d
  | _, _, _, _, .nil, e => by simp at e
  | _, _, 0, _, .cons a _, e => by simp at e; subst e; exact ⟨_, rfl, a⟩
  | _, _, i + 1, d, .cons _ r, e => by
    obtain ⟨v, h1, h2⟩ := RpAll.get' (i := i) (v := d) r (by simpa using e)
    exact ⟨v, by simpa using h1, h2⟩
theorem RpAll.append : ∀ {vs ws : List V} {ds es : List D}, RpAll K H vs ds → RpAll K H ws es → RpAll K H (vs ++ ws) (ds ++ es)
  | _, _, _, _, .nil, s => s
  | _, _, _, _, .cons a r, s => .cons a (RpAll.append r s)
theorem RpAll.take : ∀ {vs : List V} {ds : List D} (n : Nat), RpAll K H vs ds → RpAll K H (vs.take n) (ds.take n)
  | _, _, 0, _ => .nil
  | _, _, _ + 1, .nil => .nil
  | _, _, n + 1, .cons a r => .cons a (RpAll.take n r)
theorem RpAll.drop : ∀ {vs : List V} {ds : List D} (n : Nat), RpAll K H vs ds → RpAll K H (vs.drop n) (ds.drop n)
  | _, _, 0, r => r
  | _, _, _ + 1, .nil => .nil
  | _, _, n + 1, .cons _ r => RpAll.drop n r
theorem RpAll.set {x : V} {d : D} (a : Rp K H x d) : ∀ {vs : List V} {ds : List D} (i : Nat), RpAll K H vs ds → RpAll K H (vs.set i x) (ds.set i d)
  | _, _, _, .nil => .nil
  | _, _, 0, .cons _ r => .cons a r
  | _, _, i + 1, .cons b r => .cons b (RpAll.set a i r)
theorem RpAll.reverse : ∀ {vs : List V} {ds : List D}, RpAll K H vs ds → RpAll K H vs.reverse ds.reverse
  | _, _, .nil => .nil
  | _, _, .cons a r => by rw [List.reverse_cons, List.reverse_cons]; exact (RpAll.reverse r).append (.cons a .nil)
end

/-! ### the cells, the data's heap -/
def live (O : List (Option Addr)) : List Addr := O.filterMap id
theorem mem_live {O : List (Option Addr)} {a : Addr} : a ∈ live O ↔ ∃ i : Nat, O[i]? = some (some a) := by
  unfold live
  rw [List.mem_filterMap]
  constructor
  · rintro ⟨x, hx, e⟩
    have e' : x = some a := e
    subst e'
    exact List.mem_iff_getElem?.mp hx
  · rintro ⟨i, e⟩
    exact ⟨some a, List.mem_of_getElem? e, rfl⟩
/-- the heap of the data: without the owned cells -/
def hd (O : List (Option Addr)) (H : Hp) : Hp := fun a => if a ∈ live O then none else H a
theorem hd_some {O : List (Option Addr)} {H : Hp} {a : Addr} {o : HO} (h : hd O H a = some o) : a ∉ live O ∧ H a = some o := by
  unfold hd at h
  split at h
  · cases h
  · rename_i n
    exact ⟨n, h⟩
theorem hd_of {O : List (Option Addr)} {H : Hp} {a : Addr} {o : HO} (n : a ∉ live O) (h : H a = some o) : hd O H a = some o := by
  unfold hd
  rw [if_neg n]
  exact h
/-- what is not an owned cell stays -/
def Ch (O : List (Option Addr)) (H H' : Hp) : Prop := ∀ a o, a ∉ live O → H a = some o → H' a = some o
theorem Ch.refl {O : List (Option Addr)} {H : Hp} : Ch O H H := fun _ _ _ h => h
theorem Ch.trans {O : List (Option Addr)} {H H1 H2 : Hp} (a : Ch O H H1) (b : Ch O H1 H2) : Ch O H H2 := fun x o n h => b x o n (a x o n h)
theorem Ch.data {O : List (Option Addr)} {H H' : Hp} (c : Ch O H H') : ∀ a o, hd O H a = some o → hd O H' a = some o := fun a o h => by
  obtain ⟨n, e⟩ := hd_some h
  exact hd_of n (c a o n e)
structure Wd (K : PySem.W.Frag) (O : List (Option Addr)) (cs : Cs) (H : Hp) : Prop where
  len : cs.length = O.length
  inj : ∀ (i j : Nat) (a : Addr), O[i]? = some (some a) → O[j]? = some (some a) → i = j
  cell : ∀ (i : Nat) (a : Addr), O[i]? = some (some a) → ∃ c vs, cs[i]? = some (some c) ∧ H a = some (.lst vs) ∧ RpAll K (hd O H) vs c
  ded : ∀ (i : Nat), O[i]? = some none → cs[i]? = some none
theorem Wd.of {K : PySem.W.Frag} {O : List (Option Addr)} {cs : Cs} {H : Hp} (w : Wd K O cs H) {i : Nat} {c : List D} (h : cs[i]? = some (some c)) : ∃ a vs, O[i]? = some (some a) ∧ H a = some (.lst vs) ∧ RpAll K (hd O H) vs c := by
  obtain ⟨hi, e⟩ := List.getElem?_eq_some_iff.mp h
  have hi' : i < O.length := by rw [← w.len]; exact hi
  cases q : O[i] with
  | none =>
    have := w.ded i (by rw [List.getElem?_eq_getElem hi', q])
    rw [h] at this; cases this
  | some a =>
    have q' : O[i]? = some (some a) := by rw [List.getElem?_eq_getElem hi', q]
    obtain ⟨c', vs, h1, h2, h3⟩ := w.cell i a q'
    rw [h] at h1; cases h1
    exact ⟨a, vs, q', h2, h3⟩
theorem Wd.some_live {K : PySem.W.Frag} {O : List (Option Addr)} {cs : Cs} {H : Hp} (w : Wd K O cs H) {a : Addr} (h : a ∈ live O) : ∃ o, H a = some o := by
  obtain ⟨i, e⟩ := mem_live.mp h
  obtain ⟨c, vs, _, h2, _⟩ := w.cell i a e
  exact ⟨_, h2⟩
theorem Wd.fresh {K : PySem.W.Frag} {O : List (Option Addr)} {cs : Cs} {H : Hp} (w : Wd K O cs H) {a : Addr} (h : H a = none) : a ∉ live O := fun z => by
  obtain ⟨o, e⟩ := w.some_live z
  rw [h] at e; cases e
/-- what is new behind is new ahead -/
theorem Wd.new_of {K : PySem.W.Frag} {O : List (Option Addr)} {cs cs' : Cs} {H H' : Hp} (w : Wd K O cs H) (w' : Wd K O cs' H') (c : Ch O H H') {p : Addr} (h : H' p = none) : H p = none := by
  cases q : H p with
  | none => rfl
  | some o =>
    have := c p o (w'.fresh h) q
    rw [h] at this; cases this

/-- the classes of the module, by name -/
def CLs (K : PySem.W.Frag) : List (Str × Addr) := K.filterMap fun p => match p.2.data with
  | .cls cd => some (cd.name, p.1)
  | _ => none
/-- the name nm, or that of the class above all of the package's -/
def subN (nm nm' : Str) : Bool := nm == nm' || nm' == ("SameError" : Str)
/-- what is known of the class at C, nm its name -/
structure Card (K : PySem.W.Frag) (nm : Str) (C : Addr) : Prop where
  ke : KeC K C
  nov : PySem.W.findIn K (.ref C) "value" = some none
  sub : ∀ q ∈ CLs K, PySem.W.kitOne K (.ref C) (.ref q.2) = some (subN nm q.1)
  exm : ∀ q ∈ CLs K, PySem.W.subIn K (.ref q.2) (.type "BaseException") = some true → PySem.W.exmOne K (.ref C) (.ref q.2) = some (subN nm q.1)
/-- a caught exception: its class's name, its value -/
def ExAt (K : PySem.W.Frag) (H : Hp) (nm : Str) (d : D) (v : V) : Prop := ∃ (a C dd : Addr) (y : V), v = .ref a ∧ Card K nm C ∧ H a = some (exv a (.ref C) (some dd)) ∧ H dd = some (.xd [(("value" : Str), y)]) ∧ Rp K H y d
theorem ExAt.mono {K : PySem.W.Frag} {H H' : Hp} (h : ∀ a o, H a = some o → H' a = some o) {nm : Str} {d : D} {v : V} (q : ExAt K H nm d v) : ExAt K H' nm d v :=
  let ⟨a, C, dd, y, e, k, h1, h2, r⟩ := q
  ⟨a, C, dd, y, e, k, h _ _ h1, h _ _ h2, r.mono h⟩
/-! values that hold no list; the lists of a value, in order -/
mutual
def noL : D → Bool
  | .list _ => false
  | .dict _ => false
  | .tuple ds => noLs ds
  | _ => true
def noLs : List D → Bool
  | [] => true
  | d :: ds => noL d && noLs ds
end
mutual
/-- the addresses of the flat lists of a value (tuples of lists, of tuples .., lists of lists) -/
def LSh (K : PySem.W.Frag) (H : Hp) : D → V → List Addr → Prop
  | .list c, v, as => if noLs c = true then ∃ a, v = .ref a ∧ as = [a] else ∃ a vs, v = .ref a ∧ LstAt K H a vs ∧ LShs K H c vs as
  | .tuple ds, v, as => ∃ t vs, v = .ref t ∧ SqT K H t vs ∧ LShs K H ds vs as
  | .dict _, _, _ => False
  | .none, v, as => Rp K H v .none ∧ as = []
  | .bool b, v, as => Rp K H v (.bool b) ∧ as = []
  | .int i, v, as => Rp K H v (.int i) ∧ as = []
  | .str x, v, as => Rp K H v (.str x) ∧ as = []
def LShs (K : PySem.W.Frag) (H : Hp) : List D → List V → List Addr → Prop
  | [], [], as => as = []
  | d :: ds, v :: vs, as => ∃ a1 a2, as = a1 ++ a2 ∧ LSh K H d v a1 ∧ LShs K H ds vs a2
  | _, _, _ => False
end
mutual
theorem LSh.mono {K : PySem.W.Frag} {H H' : Hp} (h : ∀ a o, H a = some o → H' a = some o) : ∀ (d : D) (v : V) (as : List Addr), LSh K H d v as → LSh K H' d v as
  | .list c, v, as, q => by
    unfold LSh at q ⊢
    split at q
    · rename_i z
      rw [if_pos z]; exact q
    · rename_i z
      rw [if_neg z]
      obtain ⟨a, vs, e, q1, q2⟩ := q
      exact ⟨a, vs, e, q1.mono h, LShs.mono h c vs as q2⟩
  | .tuple ds, v, as, q => by
    unfold LSh at q ⊢
    obtain ⟨t, vs, e, q1, q2⟩ := q
    exact ⟨t, vs, e, sqT_mono h q1, LShs.mono h ds vs as q2⟩
  | .none, v, as, q => by unfold LSh at q ⊢; exact ⟨q.1.mono h, q.2⟩
  | .bool _, v, as, q => by unfold LSh at q ⊢; exact ⟨q.1.mono h, q.2⟩
  | .int _, v, as, q => by unfold LSh at q ⊢; exact ⟨q.1.mono h, q.2⟩
  | .str _, v, as, q => by unfold LSh at q ⊢; exact ⟨q.1.mono h, q.2⟩
  | .dict _, v, as, q => by unfold LSh at q; exact q.elim
theorem LShs.mono {K : PySem.W.Frag} {H H' : Hp} (h : ∀ a o, H a = some o → H' a = some o) : ∀ (ds : List D) (vs : List V) (as : List Addr), LShs K H ds vs as → LShs K H' ds vs as
  | [], [], as, q => by unfold LShs at q ⊢; exact q
  | d :: ds, v :: vs, as, q => by
    unfold LShs at q ⊢
    obtain ⟨a1, a2, e, q1, q2⟩ := q
    exact ⟨a1, a2, e, LSh.mono h d v a1 q1, LShs.mono h ds vs a2 q2⟩
  | [], _ :: _, as, q => by unfold LShs at q; exact q.elim
  | _ :: _, [], as, q => by unfold LShs at q; exact q.elim
end
/-- a group of owned lists: from the cell k on, n of them -/
def GrA (K : PySem.W.Frag) (O : List (Option Addr)) (H : Hp) (d : D) (k n : Nat) (v : V) : Prop := ∃ as : List Addr, as.length = n ∧ (∀ (i : Nat) (a : Addr), as[i]? = some a → O[k + i]? = some (some a)) ∧ LSh K (hd O H) d v as
theorem GrA.mono {K : PySem.W.Frag} {O O' : List (Option Addr)} {H H' : Hp} {d : D} {k n : Nat} {v : V} (ho : ∀ i, i < O.length → O'[i]? = O[i]?) (h : ∀ a o, hd O H a = some o → hd O' H' a = some o) (q : GrA K O H d k n v) : GrA K O' H' d k n v :=
  let ⟨as, h1, h2, h3⟩ := q
  ⟨as, h1, fun i a e => by
    have := h2 i a e
    rw [ho _ (List.getElem?_eq_some_iff.mp this).1]
    exact this, h3.mono h⟩
mutual
/-- what stands in the lists of a value -/
def flats : D → List (List D)
  | .list c => if noLs c = true then [c] else flatsA c
  | .tuple ds => flatsA ds
  | _ => []
def flatsA : List D → List (List D)
  | [] => []
  | d :: ds => flats d ++ flatsA ds
end
mutual
/-- all lists are flat -/
def flT : D → Bool
  | .list c => noLs c
  | .tuple ds => flTs ds
  | .dict _ => false
  | _ => true
def flTs : List D → Bool
  | [] => true
  | d :: ds => flT d && flTs ds
end
def Cont (K : PySem.W.Frag) (H' H : Hp) (as : List Addr) (cs : List (List D)) : Prop := as.length = cs.length ∧ ∀ (i : Nat) (a : Addr), as[i]? = some a → ∃ c vs, cs[i]? = some c ∧ H a = some (.lst vs) ∧ RpAll K H' vs c
theorem Cont.mono {K : PySem.W.Frag} {H' H2 H : Hp} {as : List Addr} {cs : List (List D)} (h : ∀ a o, H' a = some o → H2 a = some o) (q : Cont K H' H as cs) : Cont K H2 H as cs :=
  ⟨q.1, fun i a e => let ⟨c, vs, h1, h2, h3⟩ := q.2 i a e; ⟨c, vs, h1, h2, h3.mono h⟩⟩
/-- a fresh tree: its lists are new from H on, and its own -/
def FtA (K : PySem.W.Frag) (O : List (Option Addr)) (N : Addr → Prop) (d : D) (v : V) (H' : Hp) : Prop := Rp K (hd O H') v d ∧ ∃ as : List Addr, LSh K (hd O H') d v as ∧ as.Nodup ∧ (∀ a ∈ as, N a ∧ a ∉ live O) ∧ Cont K (hd O H') H' as (flats d)
/-- a value as an Rv, behind H (from H on) -/
def RvR (K : PySem.W.Frag) (O : List (Option Addr)) (H : Hp) (cs' : Cs) (r : Rv) (v : V) (H' : Hp) : Prop :=
  match r with
  | .dat d => Rp K (hd O H') v d
  | .own k => ∃ a, v = .ref a ∧ O[k]? = some (some a)
  | .fr c => ∃ p, v = .ref p ∧ H p = none ∧ Wd K (O ++ [some p]) (cs' ++ [some c]) H'
  | .exn nm d => ExAt K (hd O H') nm d v
  | .ft d => FtA K O (fun a => H a = none) d v H'
  | .gr d k n => GrA K O H' d k n v
/-- as it stays: no fresh one -/
def ArR (K : PySem.W.Frag) (O : List (Option Addr)) (r : Rv) (v : V) (H : Hp) : Prop :=
  match r with
  | .dat d => Rp K (hd O H) v d
  | .own k => ∃ a, v = .ref a ∧ O[k]? = some (some a)
  | .fr _ => False
  | .exn nm d => ExAt K (hd O H) nm d v
  | .ft _ => False
  | .gr d k n => GrA K O H d k n v
def deg : Rv → Rv
  | .fr c => .dat (.list c)
  | .ft d => .dat d
  | r => r
theorem hd_app {O : List (Option Addr)} {p : Addr} {H : Hp} : ∀ a o, hd (O ++ [some p]) H a = some o → hd O H a = some o := fun a o h => by
  obtain ⟨n, e⟩ := hd_some h
  refine hd_of (fun z => n ?_) e
  obtain ⟨i, q⟩ := mem_live.mp z
  refine mem_live.mpr ⟨i, ?_⟩
  rw [List.getElem?_append_left (List.getElem?_eq_some_iff.mp q).1]
  exact q
theorem Wd.pop {K : PySem.W.Frag} {O : List (Option Addr)} {p : Addr} {cs : Cs} {c : List D} {H : Hp} (w : Wd K (O ++ [some p]) (cs ++ [some c]) H) : Wd K O cs H ∧ Rp K (hd O H) (.ref p) (.list c) ∧ p ∉ live O := by
  have hl : cs.length = O.length := by have := w.len; simpa using this
  have up : ∀ {i : Nat} {x : Option Addr}, O[i]? = some x → (O ++ [some p])[i]? = some x := fun {i x} q => by
    rw [List.getElem?_append_left (List.getElem?_eq_some_iff.mp q).1]; exact q
  have last : (O ++ [some p])[O.length]? = some (some p) := by simp
  have np : p ∉ live O := fun z => by
    obtain ⟨i, q⟩ := mem_live.mp z
    have := w.inj i O.length p (up q) last
    have h2 := (List.getElem?_eq_some_iff.mp q).1
    omega
  refine ⟨⟨hl, fun i j a h1 h2 => w.inj i j a (up h1) (up h2), fun i a h => ?_, fun i h => ?_⟩, ?_, np⟩
  · obtain ⟨c', vs, h1, h2, h3⟩ := w.cell i a (up h)
    rw [List.getElem?_append_left (by rw [hl]; exact (List.getElem?_eq_some_iff.mp h).1)] at h1
    exact ⟨c', vs, h1, h2, h3.mono hd_app⟩
  · have h1 := w.ded i (up h)
    rw [List.getElem?_append_left (by rw [hl]; exact (List.getElem?_eq_some_iff.mp h).1)] at h1
    exact h1
  · obtain ⟨c', vs, h1, h2, h3⟩ := w.cell O.length p last
    rw [← hl] at h1
    simp at h1
    subst h1
    exact .lst (.inl (.inl (hd_of np h2))) (h3.mono hd_app)
theorem RvR.deg {K : PySem.W.Frag} {O : List (Option Addr)} {H H' : Hp} {cs' : Cs} {r : Rv} {v : V} (h : RvR K O H cs' r v H') : ArR K O (deg r) v H' := by
  cases r with
  | dat d => exact h
  | own k => exact h
  | fr c =>
    obtain ⟨p, rfl, _, w⟩ := h
    exact w.pop.2.1
  | exn nm d => exact h
  | ft d => exact h.1
  | gr d k n => exact h
theorem ArR.ch {K : PySem.W.Frag} {O : List (Option Addr)} {H H' : Hp} {r : Rv} {v : V} (c : Ch O H H') (h : ArR K O r v H) : ArR K O r v H' := by
  cases r with
  | dat d => exact Rp.mono c.data h
  | own k => exact h
  | fr c => exact h
  | exn nm d => exact ExAt.mono c.data h
  | ft d => exact h
  | gr d k n => exact h.mono (fun _ _ => rfl) c.data
/-- an owned cell's content, or data -/
def rd (r : Rv) (cs : Cs) : Option D :=
  match r with
  | .dat d => some d
  | .own k => match cs[k]? with
    | some (some c) => some (.list c)
    | _ => none
  | .fr c => some (.list c)
  | .exn _ _ => none
  | .ft d => some d
  | .gr _ _ _ => none
/-- as it is read: the list itself may be an owned cell, what it holds is data -/
def Sh (K : PySem.W.Frag) (O : List (Option Addr)) (H : Hp) (v : V) (d : D) : Prop := Rp K (hd O H) v d ∨ ∃ a vs ds, v = .ref a ∧ d = .list ds ∧ H a = some (.lst vs) ∧ RpAll K (hd O H) vs ds
theorem ArR.sh {K : PySem.W.Frag} {O : List (Option Addr)} {H : Hp} {cs : Cs} {r : Rv} {v : V} {d : D} (w : Wd K O cs H) (h : ArR K O r v H) (e : rd r cs = some d) : Sh K O H v d := by
  cases r with
  | dat d' =>
    cases e
    exact .inl h
  | own k =>
    obtain ⟨a, rfl, q⟩ := h
    obtain ⟨c, vs, h1, h2, h3⟩ := w.cell k a q
    unfold rd at e
    simp only [h1] at e
    cases e
    exact .inr ⟨a, vs, c, rfl, rfl, h2, h3⟩
  | fr c => exact h.elim
  | exn nm d => cases e
  | ft d => exact h.elim
  | gr d k n => cases e
theorem hd_le {O : List (Option Addr)} {H : Hp} : ∀ a o, hd O H a = some o → H a = some o := fun a o h => (hd_some h).2
theorem Sh.rp {K : PySem.W.Frag} {O : List (Option Addr)} {H : Hp} {v : V} {d : D} (h : Sh K O H v d) : Rp K H v d := by
  rcases h with h | ⟨a, vs, ds, rfl, rfl, h1, h2⟩
  · exact h.mono hd_le
  · exact .lst (.inl (.inl h1)) (h2.mono hd_le)
/-- items of what is read are data -/
theorem Sh.list {K : PySem.W.Frag} {O : List (Option Addr)} {H : Hp} {v : V} {ds : List D} (h : Sh K O H v (.list ds)) : ∃ a vs, v = .ref a ∧ LstAt K H a vs ∧ RpAll K (hd O H) vs ds := by
  rcases h with h | ⟨a, vs, ds', rfl, e, h1, h2⟩
  · cases h with
    | lst q r => exact ⟨_, _, rfl, q.mono hd_le, r⟩
  · cases e
    exact ⟨a, vs, rfl, .inl (.inl h1), h2⟩
theorem Sh.tuple {K : PySem.W.Frag} {O : List (Option Addr)} {H : Hp} {v : V} {ds : List D} (h : Sh K O H v (.tuple ds)) : ∃ a vs, v = .ref a ∧ SqT K H a vs ∧ RpAll K (hd O H) vs ds := by
  rcases h with h | ⟨a, vs, ds', rfl, e, h1, h2⟩
  · cases h with
    | tup q r => exact ⟨_, _, rfl, sqT_mono hd_le q, r⟩
  · cases e
theorem Sh.int {K : PySem.W.Frag} {O : List (Option Addr)} {H : Hp} {v : V} {i : Int} (h : Sh K O H v (.int i)) : v = .int i := by
  rcases h with h | ⟨a, vs, ds', rfl, e, h1, h2⟩
  · cases h; rfl
  · cases e
theorem Sh.bool {K : PySem.W.Frag} {O : List (Option Addr)} {H : Hp} {v : V} {i : Bool} (h : Sh K O H v (.bool i)) : v = .bl i := by
  rcases h with h | ⟨a, vs, ds', rfl, e, h1, h2⟩
  · cases h; rfl
  · cases e
theorem Sh.none {K : PySem.W.Frag} {O : List (Option Addr)} {H : Hp} {v : V} (h : Sh K O H v .none) : v = .non := by
  rcases h with h | ⟨a, vs, ds', rfl, e, h1, h2⟩
  · cases h; rfl
  · cases e
theorem Sh.str {K : PySem.W.Frag} {O : List (Option Addr)} {H : Hp} {v : V} {x : Str} (h : Sh K O H v (.str x)) : v = .str x ∧ x.length ≤ sizeLine := by
  rcases h with h | ⟨a, vs, ds', rfl, e, h1, h2⟩
  · cases h with
    | str _ q => exact ⟨rfl, q⟩
  · cases e
theorem Sh.dict {K : PySem.W.Frag} {O : List (Option Addr)} {H : Hp} {v : V} {ds : List (D × D)} (h : Sh K O H v (.dict ds)) (hf : isFn ds = false) : ∃ a kvs, v = .ref a ∧ Rd H a (.dK kvs) ∧ kvs.map (fun p => kD p.1) = ds.map (·.1) ∧ RpAll K (hd O H) (kvs.map (·.2)) (ds.map (·.2)) := by
  rcases h with h | ⟨a, vs, ds', rfl, e, h1, h2⟩
  · cases h with
    | dct q e r =>
      exact ⟨_, _, rfl, .inr ⟨_, hd_le _ _ q⟩, e, r⟩
    | fn q => cases hf
  · cases e
/-- the environment -/
structure EnvOk (K : PySem.W.Frag) (O : List (Option Addr)) (H : Hp) (ρ : Rho) (σ : L2.St) : Prop where
  len : ρ.length = σ.length
  slot : ∀ (i : Nat) (r : Rv), ρ[i]? = some (some r) → ∃ v, σ[i]? = some (some v) ∧ ArR K O r v H
theorem EnvOk.ch {K : PySem.W.Frag} {O : List (Option Addr)} {H H' : Hp} {ρ : Rho} {σ : L2.St} (e : EnvOk K O H ρ σ) (c : Ch O H H') : EnvOk K O H' ρ σ :=
  ⟨e.len, fun i r h => let ⟨v, h1, h2⟩ := e.slot i r h; ⟨v, h1, h2.ch c⟩⟩
theorem EnvOk.set {K : PySem.W.Frag} {O : List (Option Addr)} {H : Hp} {ρ : Rho} {σ : L2.St} (e : EnvOk K O H ρ σ) (i : Nat) {r : Rv} {v : V} (h : ArR K O r v H) : EnvOk K O H (ρ.set i (some r)) (σ.set i (some v)) := by
  refine ⟨by simp [e.len], fun j r' hj => ?_⟩
  by_cases q : i = j
  · subst q
    have hi : i < ρ.length := by
      have := (List.getElem?_eq_some_iff.mp hj).1
      simpa using this
    rw [List.getElem?_set_self hi] at hj
    cases hj
    exact ⟨v, by rw [List.getElem?_set_self (by rw [← e.len]; exact hi)], h⟩
  · rw [List.getElem?_set_ne q] at hj
    obtain ⟨w, h1, h2⟩ := e.slot j r' hj
    exact ⟨w, by rw [List.getElem?_set_ne q]; exact h1, h2⟩

/-! ### new objects -/
section
variable {K : PySem.W.Frag} {O : List (Option Addr)} {cs : Cs} {H : Hp}
theorem ch_new {p : Addr} {o : HO} (hp : H p = none) : Ch O H (upd H p o) := fun a u _ h => by
  rw [upd_ne (ne_of_none h hp)]; exact h
theorem Wd.new (w : Wd K O cs H) {p : Addr} {o : HO} (hp : H p = none) : Wd K O cs (upd H p o) := by
  refine ⟨w.len, w.inj, fun i a h => ?_, w.ded⟩
  obtain ⟨c, vs, h1, h2, h3⟩ := w.cell i a h
  exact ⟨c, vs, h1, by rw [upd_ne (ne_of_none h2 hp)]; exact h2, h3.mono (ch_new hp).data⟩
theorem Wd.newList (w : Wd K O cs H) {p : Addr} {vs : List V} {c : List D} (hp : H p = none) (r : RpAll K (hd O H) vs c) : Wd K (O ++ [some p]) (cs ++ [some c]) (upd H p (.lst vs)) := by
  have np := w.fresh hp
  have sub : ∀ a o, hd O H a = some o → hd (O ++ [some p]) (upd H p (.lst vs)) a = some o := fun a o h => by
    obtain ⟨n, e⟩ := hd_some h
    have ne : a ≠ p := ne_of_none e hp
    refine hd_of (fun z => ?_) (by rw [upd_ne ne]; exact e)
    obtain ⟨i, q⟩ := mem_live.mp z
    by_cases hi : i < O.length
    · rw [List.getElem?_append_left hi] at q
      exact n (mem_live.mpr ⟨i, q⟩)
    · rw [List.getElem?_append_right (by omega)] at q
      have : i - O.length = 0 := by
        have := (List.getElem?_eq_some_iff.mp q).1
        simp at this; omega
      rw [this] at q
      simp at q
      exact ne q.symm
  have split : ∀ {i : Nat} {x : Option Addr}, (O ++ [some p])[i]? = some x → (i < O.length ∧ O[i]? = some x) ∨ (i = O.length ∧ x = some p) := fun {i x} q => by
    by_cases hi : i < O.length
    · rw [List.getElem?_append_left hi] at q
      exact .inl ⟨hi, q⟩
    · rw [List.getElem?_append_right (by omega)] at q
      have h0 : i - O.length = 0 := by
        have := (List.getElem?_eq_some_iff.mp q).1
        simp at this; omega
      rw [h0] at q
      simp at q
      exact .inr ⟨by omega, q.symm⟩
  refine ⟨by simp [w.len], fun i j a h1 h2 => ?_, fun i a h => ?_, fun i h => ?_⟩
  · rcases split h1 with ⟨l1, q1⟩ | ⟨e1, q1⟩ <;> rcases split h2 with ⟨l2, q2⟩ | ⟨e2, q2⟩
    · exact w.inj i j a q1 q2
    · cases q2; exact absurd (mem_live.mpr ⟨i, q1⟩) np
    · cases q1; exact absurd (mem_live.mpr ⟨j, q2⟩) np
    · omega
  · rcases split h with ⟨l1, q1⟩ | ⟨e1, q1⟩
    · obtain ⟨c', vs', h1, h2, h3⟩ := w.cell i a q1
      refine ⟨c', vs', ?_, by rw [upd_ne (ne_of_none h2 hp)]; exact h2, h3.mono sub⟩
      rw [List.getElem?_append_left (by rw [w.len]; exact l1)]; exact h1
    · cases q1
      refine ⟨c, vs, ?_, upd_same, r.mono sub⟩
      rw [e1, ← w.len]; simp
  · rcases split h with ⟨l1, q1⟩ | ⟨e1, q1⟩
    · rw [List.getElem?_append_left (by rw [w.len]; exact l1)]; exact w.ded i q1
    · cases q1
end
/-- what an expression wants behind -/
def PostX (K : PySem.W.Frag) (O : List (Option Addr)) (H : Hp) (r : Rv) (cs' : Cs) (Q : VK) : Prop := ∀ v H', Ch O H H' → Wd K O cs' H' → RvR K O H cs' r v H' → Q v H'
section
variable {K : PySem.W.Frag} {O : List (Option Addr)} {cs : Cs} {H : Hp} {Q : VK}
theorem post_list {vs : List V} {c : List D} (w : Wd K O cs H) (r : RpAll K (hd O H) vs c) (h : PostX K O H (.fr c) cs Q) : ∀ p, H p = none → Q (.ref p) (upd H p (.lst vs)) := fun p hp =>
  h _ _ (ch_new hp) (w.new hp) ⟨p, rfl, hp, w.newList hp r⟩
theorem post_tup {vs : List V} {c : List D} (w : Wd K O cs H) (r : RpAll K (hd O H) vs c) (h : PostX K O H (.dat (.tuple c)) cs Q) : ∀ p, H p = none → Q (.ref p) (upd H p (.tup vs)) := fun p hp =>
  h _ _ (ch_new hp) (w.new hp) (.tup (.inl (.inl (hd_of (w.fresh hp) upd_same))) (r.mono (ch_new hp).data))
theorem post_val {v : V} {d : D} (w : Wd K O cs H) (r : Rp K (hd O H) v d) (h : PostX K O H (.dat d) cs Q) : Q v H := h _ _ .refl w r
theorem post_int {i : Int} (w : Wd K O cs H) (h : PostX K O H (.dat (.int i)) cs Q) : Q (.int i) H := post_val w (.int i) h
theorem post_bool {b : Bool} (w : Wd K O cs H) (h : PostX K O H (.dat (.bool b)) cs Q) : Q (.bl b) H := post_val w (.bl b) h
theorem post_str {x : Str} (w : Wd K O cs H) (hz : x.length ≤ sizeLine) (h : PostX K O H (.dat (.str x)) cs Q) : Q (.str x) H := post_val w (.str x hz) h
end
end DL
namespace DL
open PySem PySem.Spec PyProof.Rows L2

/-! ### data as the library reads it -/
section
variable {X : Cx} {pins : List (Addr × Obj)} {σ : L2.St} {H : Hp} {s : Shared}
theorem keys_reads {h : Heap} : ∀ {kvs : List (Key × V)} {ds : List D} {us : List Value}, kvs.map (fun p => kD p.1) = ds → (∀ (i : Nat) (k : Key) (v : V), kvs[i]? = some (k, v) → ∃ u, us[i]? = some u ∧ keyIs k u = true) → us.length = kvs.length → ∃ as, ReadsAll h us ds as := by
  intro kvs
  induction kvs with
  | nil =>
    intro ds us e _ hl
    subst e
    cases us with
    | nil => exact ⟨_, .nil⟩
    | cons _ _ => cases hl
  | cons kv r ih =>
    intro ds us e hk hl
    subst e
    cases us with
    | nil => cases hl
    | cons u us =>
      obtain ⟨as, ha⟩ := ih (us := us) rfl (fun i k v h => hk (i + 1) k v (by simpa using h)) (by simpa using hl)
      obtain ⟨u', e1, e2⟩ := hk 0 kv.1 kv.2 rfl
      have e1' : u = u' := by simpa using e1
      subst e1'
      rcases keyIs_shape e2 with ⟨i, t, ek, rfl⟩ | ⟨x, t, ek, rfl⟩
      · refine ⟨_, .cons (d := kD kv.1) (as := []) (by rw [ek]; exact .int i t) ha⟩
      · refine ⟨_, .cons (d := kD kv.1) (as := []) (by rw [ek]; exact .str x t) ha⟩
mutual
/-- no def lies within -/
def noF : D → Bool
  | .list ds => noFs ds
  | .tuple ds => noFs ds
  | .dict kvs => !isFn kvs && noFk kvs
  | .none => true
  | .bool _ => true
  | .int _ => true
  | .str _ => true
def noFs : List D → Bool
  | [] => true
  | d :: ds => noF d && noFs ds
def noFk : List (D × D) → Bool
  | [] => true
  | (_, v) :: r => noF v && noFk r
end
mutual
theorem noF_plain : ∀ {d : D}, d.plain = true → noF d = true
  | .none, _ => by unfold noF; rfl
  | .bool _, _ => by unfold noF; rfl
  | .int _, _ => by unfold noF; rfl
  | .str _, _ => by unfold noF; rfl
  | .list ds, h => by unfold noF; exact noFs_plain h
  | .tuple ds, h => by unfold noF; exact noFs_plain h
  | .dict _, h => by cases h
theorem noFs_plain : ∀ {ds : List D}, PyData.plainAll ds = true → noFs ds = true
  | [], _ => by unfold noFs; rfl
  | d :: ds, h => by
    obtain ⟨h1, h2⟩ := Bool.and_eq_true_iff.mp (show (d.plain && PyData.plainAll ds) = true from h)
    unfold noFs
    rw [noF_plain h1, noFs_plain h2]
    rfl
end
mutual
theorem noF_nodict : ∀ {d : D}, d.hasDict = false → noF d = true
  | .none, _ => by unfold noF; rfl
  | .bool _, _ => by unfold noF; rfl
  | .int _, _ => by unfold noF; rfl
  | .str _, _ => by unfold noF; rfl
  | .list ds, h => by unfold noF; exact noFs_nodict h
  | .tuple ds, h => by unfold noF; exact noFs_nodict h
  | .dict _, h => by cases h
theorem noFs_nodict : ∀ {ds : List D}, PyData.hasDictAll ds = false → noFs ds = true
  | [], _ => by unfold noFs; rfl
  | d :: ds, h => by
    obtain ⟨h1, h2⟩ := Bool.or_eq_false_iff.mp (show (d.hasDict || PyData.hasDictAll ds) = false from h)
    unfold noFs
    rw [noF_nodict h1, noFs_nodict h2]
    rfl
end
theorem noFk_snd : ∀ {kvs : List (D × D)}, noFk kvs = true → noFs (kvs.map (·.2)) = true
  | [], _ => by unfold noFs; rfl
  | (k, v) :: r, h => by
    unfold noFk at h
    obtain ⟨h1, h2⟩ := Bool.and_eq_true_iff.mp h
    show noFs (v :: r.map (·.2)) = true
    unfold noFs
    rw [h1, noFk_snd h2]
    rfl
mutual
theorem Rp.reads (I : Inv X pins σ H s) : ∀ {v : V} {d : D}, Rp X.K H v d → noF d = true → ∀ u : Value, RelV v u → ∃ as, Reads s.heap u d as
  | _, _, .non, _, u, r => by cases r; exact ⟨_, Reads.none⟩
  | _, _, .bl b, _, u, r => by cases r; exact ⟨_, Reads.bool b⟩
  | _, _, .int i, _, u, r => by obtain ⟨t, rfl⟩ := r; exact ⟨_, Reads.int i t⟩
  | _, _, .str x _, _, u, r => by obtain ⟨t, rfl⟩ := r; exact ⟨_, Reads.str x t⟩
  | _, _, .lst q a, nf, u, r => by
    cases r
    unfold noF at nf
    obtain ⟨its, rv, ⟨o, n, ho, hc, _, hd⟩, _⟩ := I.list q.sq
    obtain ⟨as, hr⟩ := RpAll.reads I a nf its rv
    exact ⟨_, Reads.list ho hc hd hr⟩
  | _, _, .tup q a, nf, u, r => by
    cases r
    unfold noF at nf
    obtain ⟨its, rv, ⟨o, ho, hc, n, hd⟩, _⟩ := I.tuple q
    obtain ⟨as, hr⟩ := RpAll.reads I a nf its rv
    exact ⟨_, Reads.tuple ho hc hd hr⟩
  | _, _, .fn q, nf, _, _ => by unfold noF at nf; cases nf
  | _, _, .dct (a := a) (kvs := kvs) (ds := ds) q e b, nf, u, r => by
    cases r
    unfold noF at nf
    have nf := noFk_snd (Bool.and_eq_true_iff.mp nf).2
    obtain ⟨hz, hS, vs, rk, m⟩ := dk_rd I.hok (.inr ⟨_, q⟩)
    obtain ⟨es, ep, ⟨o, ho, hx, hd⟩, hl, hk⟩ := Heap.DictOf.raw m
    have hlen : kvs.length = vs.length := Paired.length rk
    have rvals : Vals (kvs.map (·.2)) (es.toList.map (·.val)) := by
      have e1 : es.toList.map (·.val) = vs.map (·.2) := by
        apply List.ext_getElem?
        intro i
        rw [List.getElem?_map, List.getElem?_map]
        by_cases hi : i < es.size
        · have hi2 : i < vs.length := by omega
          rw [List.getElem?_eq_getElem (by simpa using hi), List.getElem?_eq_getElem hi2]
          have := (hk i hi vs[i].1 vs[i].2 (List.getElem?_eq_getElem hi2)).2
          simp [this]
        · rw [List.getElem?_eq_none (by simpa using hi), List.getElem?_eq_none (by omega)]; rfl
      rw [e1]
      clear hk e1 hl hd ho hx m hz hS
      clear b e q
      clear hlen
      induction rk with
      | nil => exact .nil
      | cons p _ ih => exact .cons p.2 ih
    obtain ⟨as, h1⟩ := keys_reads (h := s.heap) (kvs := kvs) (us := es.toList.map (·.key)) e (fun i k v h => by
      have hi : i < kvs.length := (List.getElem?_eq_some_iff.mp h).1
      have hi2 : i < es.size := by omega
      have hi3 : i < vs.length := by omega
      have h3 : kvs[i]? = some kvs[i] := List.getElem?_eq_getElem hi
      have key : vs[i].1 = k := by
        have : ∀ {l : List (Key × V)} {m : List (Key × Value)}, KV l m → ∀ (j : Nat) p q, l[j]? = some p → m[j]? = some q → p.1 = q.1 := by
          intro l m r
          induction r with
          | nil => intro j p q h; simp at h
          | cons a _ ih =>
            intro j p q hp hq
            cases j with
            | zero => simp at hp hq; rw [← hp, ← hq]; exact a.1
            | succ j => exact ih j p q (by simpa using hp) (by simpa using hq)
        exact (this rk i _ _ h (List.getElem?_eq_getElem hi3)).symm
      have := (hk i hi2 vs[i].1 vs[i].2 (List.getElem?_eq_getElem hi3)).1
      refine ⟨es[i].key, ?_, ?_⟩
      · rw [List.getElem?_map, List.getElem?_eq_getElem (by simpa using hi2)]; simp
      · rw [← key]; exact this) (by simp; omega)
    obtain ⟨bs, h2⟩ := RpAll.reads I b nf _ rvals
    exact ⟨_, Reads.dict ho hx.1 hd h1 h2⟩
theorem RpAll.reads (I : Inv X pins σ H s) : ∀ {vs : List V} {ds : List D}, RpAll X.K H vs ds → noFs ds = true → ∀ us : List Value, Vals vs us → ∃ as, ReadsAll s.heap us ds as
  | _, _, .nil, _, us, r => by cases r; exact ⟨_, ReadsAll.nil⟩
  | _, _, .cons a b, nf, us, r => by
    unfold noFs at nf
    obtain ⟨n1, n2⟩ := Bool.and_eq_true_iff.mp nf
    cases r with
    | cons r1 r2 =>
      obtain ⟨as, q1⟩ := Rp.reads I a n1 _ r1
      obtain ⟨bs, q2⟩ := RpAll.reads I b n2 _ r2
      exact ⟨_, ReadsAll.cons q1 q2⟩
end
end

/-! ### expressions -/
abbrev ME := Rho → Cs → Option (Rv × Cs)
abbrev MT := Rho → Cs → Option (Bool × Cs)
abbrev MA := Rho → Cs → Option (List Rv × Cs)
def tX (K : PySem.W.Frag) (f : ME) : TE := fun σ H Q => ∃ ρ O cs r cs', f ρ cs = some (r, cs') ∧ EnvOk K O H ρ σ ∧ Wd K O cs H ∧ PostX K O H r cs' Q
def XE (X : Cx) (f : ME) (e : Expr) : Prop := PE X e (tX X.K f)
theorem pe_weak {X : Cx} {e : Expr} {t t' : TE} (h : PE X e t) (w : ∀ σ H Q, t' σ H Q → t σ H Q) : PE X e t' := ⟨fun pins s σ H Q I q => h.run pins s σ H Q I (w _ _ _ q)⟩
theorem pt_weak {X : Cx} {e : Expr} {t t' : TT} (h : PT X e t) (w : ∀ σ H Q, t' σ H Q → t σ H Q) : PT X e t' := ⟨fun pins s σ H Q I q => h.run pins s σ H Q I (w _ _ _ q)⟩
theorem ps_weak {X : Cx} {e : Stmt} {t t' : TS} (h : PS X e t) (w : ∀ D σ H, t' D σ H → t D σ H) : PS X e t' := ⟨fun pins s σ H D I q => h.run pins s σ H D I (w _ _ _ q)⟩
def Pst (K : PySem.W.Frag) (O : List (Option Addr)) (H : Hp) (cs' : Cs) (Q : Hp → Prop) : Prop := ∀ H', Ch O H H' → Wd K O cs' H' → Q H'
def tXT (K : PySem.W.Frag) (f : MT) : TT := fun σ H Q => ∃ ρ O cs b cs', f ρ cs = some (b, cs') ∧ EnvOk K O H ρ σ ∧ Wd K O cs H ∧ Pst K O H cs' (Q b)
def XT (X : Cx) (f : MT) (e : Expr) : Prop := PT X e (tXT X.K f)
def ArRs (K : PySem.W.Frag) (O : List (Option Addr)) (H : Hp) : List Rv → List V → Prop
  | [], [] => True
  | r :: rs, v :: vs => ArR K O r v H ∧ ArRs K O H rs vs
  | _, _ => False
theorem ArRs.ch {K : PySem.W.Frag} {O : List (Option Addr)} {H H' : Hp} (c : Ch O H H') : ∀ {rs : List Rv} {vs : List V}, ArRs K O H rs vs → ArRs K O H' rs vs
  | [], [], _ => trivial
  | r :: rs, v :: vs, h => ⟨h.1.ch c, ArRs.ch c h.2⟩
  | [], _ :: _, h => h
  | _ :: _, [], h => h
theorem ArRs.length {K : PySem.W.Frag} {O : List (Option Addr)} {H : Hp} : ∀ {rs : List Rv} {vs : List V}, ArRs K O H rs vs → rs.length = vs.length
  | [], [], _ => rfl
  | r :: rs, v :: vs, h => by rw [List.length_cons, List.length_cons, ArRs.length h.2]
  | [], _ :: _, h => h.elim
  | _ :: _, [], h => h.elim
def tXA (K : PySem.W.Frag) (f : MA) : TA := fun σ H Q => ∃ ρ O cs rs cs', f ρ cs = some (rs, cs') ∧ EnvOk K O H ρ σ ∧ Wd K O cs H ∧ ∀ vs H', Ch O H H' → Wd K O cs' H' → ArRs K O H' rs vs → Q vs H'
def XA (X : Cx) (f : MA) (es : List Expr) : Prop := PA X es (tXA X.K f)

/-- from H on, by H1 -/
theorem PostX.step {K : PySem.W.Frag} {O : List (Option Addr)} {H H1 : Hp} {cs1 : Cs} {r : Rv} {cs' : Cs} {Q : VK} (h : PostX K O H r cs' Q) (c : Ch O H H1) (w1 : Wd K O cs1 H1) : PostX K O H1 r cs' Q := fun v H' c' w' rv =>
  h v H' (c.trans c') w' (by
    cases r with
    | dat d => exact rv
    | own k => exact rv
    | exn nm d => exact rv
    | gr d k n => exact rv
    | ft d =>
      obtain ⟨h1, as, h2, h3, h4, h5⟩ := rv
      refine ⟨h1, as, h2, h3, fun a ha => ?_, h5⟩
      obtain ⟨q1, q2⟩ := h4 a ha
      refine ⟨?_, q2⟩
      show H a = none
      cases z : H a with
      | none => rfl
      | some o =>
        have := c a o (w1.fresh q1) z
        rw [q1] at this; cases this
    | fr l =>
      obtain ⟨p, e, hp, q⟩ := rv
      refine ⟨p, e, ?_, q⟩
      cases z : H p with
      | none => rfl
      | some o =>
        have := c p o (w1.fresh hp) z
        rw [hp] at this; cases this)
theorem Pst.step {K : PySem.W.Frag} {O : List (Option Addr)} {H H1 : Hp} {cs' : Cs} {Q : Hp → Prop} (h : Pst K O H cs' Q) (c : Ch O H H1) : Pst K O H1 cs' Q := fun H' c' w' => h H' (c.trans c') w'

section
variable {X : Cx}
/-! names, constants -/
def xVar (i : Nat) : ME := fun ρ cs => (ρ[i]?.join).map fun r => (r, cs)
theorem xe_var {i : Nat} {x : Str} {pos : Pos} (hN : X.N[i]? = some x) (hv : Vis X.env.scope x) (hd : (x == ("__debug__" : Str)) = false := by decide) (hcd : (x == ("__classdict__" : Str)) = false := by decide) : XE X (xVar i) (.Name x pos) := by
  refine pe_weak (pe_var hN hv hd hcd) fun σ H Q ⟨ρ, O, cs, r, cs', e, en, w, p⟩ => ?_
  unfold xVar at e
  cases q : ρ[i]? with
  | none => rw [q] at e; cases e
  | some o =>
    rw [q] at e
    cases o with
    | none => cases e
    | some r' =>
      obtain ⟨v, h1, h2⟩ := en.slot i r' q
      cases e
      refine ⟨v, h1, p v H .refl w ?_⟩
      cases r with
      | dat d => exact h2
      | own k => exact h2
      | fr c => exact h2.elim
      | exn nm d => exact h2
      | ft d => exact h2.elim
      | gr d k n => exact h2
def xC (d : D) : ME := fun _ cs => some (.dat d, cs)
theorem xe_const {e : Expr} {v : V} {d : D} (h : PE X e (tC v)) (r : ∀ K H, Rp K H v d) : XE X (xC d) e := by
  refine pe_weak h fun σ H Q ⟨ρ, O, cs, r', cs', e, en, w, p⟩ => ?_
  cases e
  exact p v H .refl w (r _ _)
theorem xe_int {i j pos} : XE X (xC (.int i)) (.Constant (.int i) j pos) := xe_const pe_int fun _ _ => .int i
theorem xe_bl {i j pos} : XE X (xC (.bool i)) (.Constant (.bool i) j pos) := xe_const pe_bl fun _ _ => .bl i
theorem xe_non {j pos} : XE X (xC .none) (.Constant .none j pos) := xe_const pe_non fun _ _ => .non
theorem xe_str {i j pos} (h : i.length ≤ sizeLine := by decide +kernel) : XE X (xC (.str i)) (.Constant (.str i) j pos) := xe_const pe_str fun _ _ => .str i h
theorem xe_gint {x : Str} {i : Int} {t : Tok} {pos : Pos} (hg : Gl X x) (hm : X.mg x = some (.int i t)) (hd : (x == ("__debug__" : Str)) = false := by decide) : XE X (xC (.int i)) (.Name x pos) := xe_const (v := .int i) (pe_glob hg hm ⟨t, rfl⟩ hd) fun _ _ => .int i
theorem xe_gstr {x z : Str} {t : Tok} {pos : Pos} (hg : Gl X x) (hm : X.mg x = some (.str z t)) (hd : (x == ("__debug__" : Str)) = false := by decide) (h : z.length ≤ sizeLine := by decide +kernel) : XE X (xC (.str z)) (.Name x pos) := xe_const (v := .str z) (pe_glob hg hm ⟨t, rfl⟩ hd) fun _ _ => .str z h

/-! two-place operations -/
def OpS (K : PySem.W.Frag) (r : R2) (g : D → D → Option Rv) : Prop := ∀ (O : List (Option Addr)) (cs : Cs) (H : Hp) (x y : V) (d e : D) (z : Rv) (Q : VK), Wd K O cs H → Sh K O H x d → Sh K O H y e → g d e = some z → PostX K O H z cs Q → r x y H Q
def mB (g : D → D → Option Rv) (fa fb : ME) : ME := fun ρ cs => (fa ρ cs).bind fun p => (fb ρ p.2).bind fun q => (rd (deg p.1) q.2).bind fun d => (rd (deg q.1) q.2).bind fun e => (g d e).map fun z => (z, q.2)
theorem mB_some {g : D → D → Option Rv} {fa fb : ME} {ρ : Rho} {cs cs' : Cs} {z : Rv} (h : mB g fa fb ρ cs = some (z, cs')) :
    ∃ x cs1 y d e, fa ρ cs = some (x, cs1) ∧ fb ρ cs1 = some (y, cs') ∧ rd (deg x) cs' = some d ∧ rd (deg y) cs' = some e ∧ g d e = some z := by
  unfold mB at h
  obtain ⟨⟨x, cs1⟩, h1, h⟩ := Option.bind_eq_some_iff.mp h
  obtain ⟨⟨y, cs2⟩, h2, h⟩ := Option.bind_eq_some_iff.mp h
  obtain ⟨d, h3, h⟩ := Option.bind_eq_some_iff.mp h
  obtain ⟨e, h4, h⟩ := Option.bind_eq_some_iff.mp h
  obtain ⟨z', h5, h⟩ := Option.map_eq_some_iff.mp h
  cases h
  exact ⟨x, cs1, y, d, e, h1, h2, h3, h4, h5⟩
theorem tOp_of {K : PySem.W.Frag} {r : R2} {g : D → D → Option Rv} {fa fb : ME} (hs : OpS K r g) {σ : L2.St} {H : Hp} {Q : VK} (h : tX K (mB g fa fb) σ H Q) : tOp r (tX K fa) (tX K fb) σ H Q := by
  obtain ⟨ρ, O, cs, z, cs', e, en, w, p⟩ := h
  obtain ⟨x, cs1, y, d, e', h1, h2, h3, h4, h5⟩ := mB_some e
  refine ⟨ρ, O, cs, x, cs1, h1, en, w, fun v1 H1 c1 w1 r1 => ?_⟩
  refine ⟨ρ, O, cs1, y, cs', h2, en.ch c1, w1, fun v2 H2 c2 w2 r2 => ?_⟩
  exact hs O cs' H2 v1 v2 d e' z Q w2 ((r1.deg.ch c2).sh w2 h3) (r2.deg.sh w2 h4) h5 (p.step (c1.trans c2) w2)
theorem xe_bin {op : Operator} {r : R2} {g : D → D → Option Rv} {a b : Expr} {fa fb : ME} {pos : Pos} (ho : OpR X (binaryOp op) r) (hs : OpS X.K r g) (ha : XE X fa a) (hb : XE X fb b) : XE X (mB g fa fb) (.BinOp a op b pos) :=
  pe_weak (pe_op ho ha hb) fun σ H Q h => tOp_of hs h
theorem xe_cmp {op : CmpOp} {r : R2} {g : D → D → Option Rv} {a b : Expr} {fa fb : ME} {pos : Pos} (ho : OpR X (compareOp op) r) (hs : OpS X.K r g) (ha : XE X fa a) (hb : XE X fb b) (hm : behindInMarks op b = false := by first | exact nobehind _ (by decide) (by decide) | rfl) :
    XE X (mB g fa fb) (.Compare a [op] [b] pos) := pe_weak (pe_cmpR ho ha hb hm) fun σ H Q h => tOp_of hs h
theorem xe_ix {r : R2} {g : D → D → Option Rv} {a b : Expr} {fa fb : ME} {pos : Pos} (ho : IxR X r) (hs : OpS X.K r g) (ha : XE X fa a) (hb : XE X fb b) (hp : PlainIx b := by exact fun _ _ => rfl) : XE X (mB g fa fb) (.Subscript a b pos) :=
  pe_weak (pe_ix ho ha hb hp) fun σ H Q h => tOp_of hs h
def mU (g : D → Option Rv) (fa : ME) : ME := fun ρ cs => (fa ρ cs).bind fun p => (rd (deg p.1) p.2).bind fun d => (g d).map fun z => (z, p.2)
theorem mU_some {g : D → Option Rv} {fa : ME} {ρ : Rho} {cs cs' : Cs} {z : Rv} (h : mU g fa ρ cs = some (z, cs')) : ∃ x d, fa ρ cs = some (x, cs') ∧ rd (deg x) cs' = some d ∧ g d = some z := by
  unfold mU at h
  obtain ⟨⟨x, cs1⟩, h1, h⟩ := Option.bind_eq_some_iff.mp h
  obtain ⟨d, h3, h⟩ := Option.bind_eq_some_iff.mp h
  obtain ⟨z', h5, h⟩ := Option.map_eq_some_iff.mp h
  cases h
  exact ⟨x, d, h1, h3, h5⟩
def UnS (K : PySem.W.Frag) (r : V → Hp → VK → Prop) (g : D → Option Rv) : Prop := ∀ (O : List (Option Addr)) (cs : Cs) (H : Hp) (x : V) (d : D) (z : Rv) (Q : VK), Wd K O cs H → Sh K O H x d → g d = some z → PostX K O H z cs Q → r x H Q
theorem xe_un {op : UnaryOp} {r : V → Hp → VK → Prop} {g : D → Option Rv} {a : Expr} {fa : ME} {pos : Pos} (ho : UnR X (unaryOp op) r) (hs : UnS X.K r g) (ha : XE X fa a) : XE X (mU g fa) (.UnaryOp op a pos) :=
  pe_weak (pe_un ho ha) fun σ H Q ⟨ρ, O, cs, z, cs', e, en, w, p⟩ => by
    obtain ⟨x, d, h1, h2, h3⟩ := mU_some e
    exact ⟨ρ, O, cs, x, cs', h1, en, w, fun v1 H1 c1 w1 r1 => hs O cs' H1 v1 d z Q w1 (r1.deg.sh w1 h2) h3 (p.step c1 w1)⟩

/-! arguments -/
def aNil : MA := fun _ cs => some ([], cs)
def aCons (fa : ME) (fr : MA) : MA := fun ρ cs => (fa ρ cs).bind fun p => (fr ρ p.2).map fun q => (deg p.1 :: q.1, q.2)
theorem xa_nil : XA X aNil [] := ⟨fun pos pins s σ H Q I ⟨ρ, O, cs, rs, cs', e, en, w, p⟩ => by
  cases e
  exact pa_nil.run pos pins s σ H Q I (p [] H .refl w trivial)⟩
theorem pa_weak {es : List Expr} {t t' : TA} (h : PA X es t) (w : ∀ σ H Q, t' σ H Q → t σ H Q) : PA X es t' := ⟨fun pos pins s σ H Q I q => h.run pos pins s σ H Q I (w _ _ _ q)⟩
theorem aCons_some {fa : ME} {fr : MA} {ρ : Rho} {cs cs' : Cs} {rs : List Rv} (h : aCons fa fr ρ cs = some (rs, cs')) : ∃ x cs1 r, fa ρ cs = some (x, cs1) ∧ fr ρ cs1 = some (r, cs') ∧ rs = deg x :: r := by
  unfold aCons at h
  obtain ⟨⟨x, cs1⟩, h1, h⟩ := Option.bind_eq_some_iff.mp h
  obtain ⟨⟨r, cs2⟩, h2, h⟩ := Option.map_eq_some_iff.mp h
  cases h
  exact ⟨x, cs1, r, h1, h2, rfl⟩
theorem tCons_of {K : PySem.W.Frag} {fa : ME} {fr : MA} {σ : L2.St} {H : Hp} {Q : List V → Hp → Prop} (h : tXA K (aCons fa fr) σ H Q) : tCons (tX K fa) (tXA K fr) σ H Q := by
  obtain ⟨ρ, O, cs, rs, cs', e, en, w, p⟩ := h
  obtain ⟨x, cs1, r, h1, h2, rfl⟩ := aCons_some e
  refine ⟨ρ, O, cs, x, cs1, h1, en, w, fun v1 H1 c1 w1 r1 => ?_⟩
  exact ⟨ρ, O, cs1, r, cs', h2, en.ch c1, w1, fun vs H2 c2 w2 r2 => p _ _ (c1.trans c2) w2 ⟨r1.deg.ch c2, r2⟩⟩
theorem xa_cons {e : Expr} {es : List Expr} {fa : ME} {fr : MA} (ha : XE X fa e) (hr : XA X fr es) (hs : starEach (e :: es) X.env = (false, eval e X.env) :: starEach es X.env := by rfl) : XA X (aCons fa fr) (e :: es) :=
  pa_weak (pa_cons ha hr hs) fun σ H Q h => tCons_of h
/-- a consumer of arguments -/
def CaS (K : PySem.W.Frag) (r : List V → Hp → VK → Prop) (g : List D → Option Rv) : Prop := ∀ (O : List (Option Addr)) (cs : Cs) (H : Hp) (vs : List V) (ds : List D) (z : Rv) (Q : VK), Wd K O cs H → Paired (Sh K O H) vs ds → g ds = some z → PostX K O H z cs Q → r vs H Q
def rdAll : List Rv → Cs → Option (List D)
  | [], _ => some []
  | r :: rs, cs => (rd r cs).bind fun d => (rdAll rs cs).map fun ds => d :: ds
theorem ArRs.sh {K : PySem.W.Frag} {O : List (Option Addr)} {H : Hp} {cs : Cs} (w : Wd K O cs H) : ∀ {rs : List Rv} {vs : List V} {ds : List D}, ArRs K O H rs vs → rdAll rs cs = some ds → Paired (Sh K O H) vs ds
  | [], [], ds, _, e => by cases e; exact .nil
  | r :: rs, v :: vs, ds, h, e => by
    unfold rdAll at e
    obtain ⟨d, h1, e⟩ := Option.bind_eq_some_iff.mp e
    obtain ⟨ds', h2, e⟩ := Option.map_eq_some_iff.mp e
    subst e
    exact .cons (h.1.sh w h1) (ArRs.sh w h.2 h2)
  | [], _ :: _, _, h, _ => h.elim
  | _ :: _, [], _, h, _ => h.elim
def mCall (g : List D → Option Rv) (fa : MA) : ME := fun ρ cs => (fa ρ cs).bind fun p => (rdAll p.1 p.2).bind fun ds => (g ds).map fun z => (z, p.2)
theorem mCall_some {g : List D → Option Rv} {fa : MA} {ρ : Rho} {cs cs' : Cs} {z : Rv} (h : mCall g fa ρ cs = some (z, cs')) : ∃ rs ds, fa ρ cs = some (rs, cs') ∧ rdAll rs cs' = some ds ∧ g ds = some z := by
  unfold mCall at h
  obtain ⟨⟨x, cs1⟩, h1, h⟩ := Option.bind_eq_some_iff.mp h
  obtain ⟨d, h3, h⟩ := Option.bind_eq_some_iff.mp h
  obtain ⟨z', h5, h⟩ := Option.map_eq_some_iff.mp h
  cases h
  exact ⟨x, d, h1, h3, h5⟩
theorem tCB_of {K : PySem.W.Frag} {r : List V → Hp → VK → Prop} {g : List D → Option Rv} {fa : MA} (hs : CaS K r g) {σ : L2.St} {H : Hp} {Q : VK} (h : tX K (mCall g fa) σ H Q) : tCB r (tXA K fa) σ H Q := by
  obtain ⟨ρ, O, cs, z, cs', e, en, w, p⟩ := h
  obtain ⟨rs, ds, h1, h2, h3⟩ := mCall_some e
  exact ⟨ρ, O, cs, rs, cs', h1, en, w, fun vs H1 c1 w1 r1 => hs O cs' H1 vs ds z Q w1 (r1.sh w1 h2) h3 (p.step c1 w1)⟩
theorem xe_callB {id : String} {r : List V → Hp → VK → Prop} {g : List D → Option Rv} {x : Str} {e : Expr} {es : List Expr} {fa : MA} {p pos : Pos} (hc : CallR X (.builtin id) r) (hs : CaS X.K r g) (hg : Gl X x) (hm : X.mg x = none) (hv : bootBuiltins x = some (.builtin id)) (ha : XA X fa (e :: es))
    (hn : x ≠ "__name__" := by decide) (hdb : (x == ("__debug__" : Str)) = false := by decide)
    (he : starEach (e :: es) X.env = (false, eval e X.env) :: starEach es X.env := by rfl) (hpl : (backTo pos (starEach es X.env)).any (·.1) = false := by rfl) : XE X (mCall g fa) (.Call (.Name x p) (e :: es) [] pos) :=
  pe_weak (pe_callB hc hg hm hv ha hn hdb he hpl) fun σ H Q h => tCB_of hs h
theorem xe_callTy {T : String} {r : List V → Hp → VK → Prop} {g : List D → Option Rv} {x : Str} {e : Expr} {es : List Expr} {fa : MA} {p pos : Pos} (hc : CallR X (.type T) r) (hs : CaS X.K r g) (hg : Gl X x) (hm : X.mg x = none) (hv : bootBuiltins x = some (.type T)) (ha : XA X fa (e :: es))
    (hn : x ≠ "__name__" := by decide) (hdb : (x == ("__debug__" : Str)) = false := by decide)
    (he : starEach (e :: es) X.env = (false, eval e X.env) :: starEach es X.env := by rfl) (hpl : (backTo pos (starEach es X.env)).any (·.1) = false := by rfl) : XE X (mCall g fa) (.Call (.Name x p) (e :: es) [] pos) :=
  pe_weak (pe_callTy hc hg hm hv ha hn hdb he hpl) fun σ H Q h => tCB_of hs h
/-! displays: what is put in is data -/
def datAll : List Rv → Option (List D)
  | [] => some []
  | .dat d :: rs => (datAll rs).map fun ds => d :: ds
  | _ :: _ => none
theorem datAll_rp {K : PySem.W.Frag} {O : List (Option Addr)} {H : Hp} : ∀ {rs : List Rv} {vs : List V} {ds : List D}, ArRs K O H rs vs → datAll rs = some ds → RpAll K (hd O H) vs ds
  | [], [], ds, _, e => by cases e; exact .nil
  | .dat d :: rs, v :: vs, ds, h, e => by
    unfold datAll at e
    obtain ⟨ds', h2, e⟩ := Option.map_eq_some_iff.mp e
    subst e
    exact .cons h.1 (datAll_rp h.2 h2)
  | .own _ :: _, _ :: _, _, _, e => by cases e
  | .fr _ :: _, _ :: _, _, _, e => by cases e
  | .exn _ _ :: _, _ :: _, _, _, e => by cases e
  | .ft _ :: _, _ :: _, _, _, e => by cases e
  | .gr _ _ _ :: _, _ :: _, _, _, e => by cases e
  | [], _ :: _, _, h, _ => h.elim
  | _ :: _, [], _, h, _ => h.elim
def mDisp (g : List D → Rv) (fa : MA) : ME := fun ρ cs => (fa ρ cs).bind fun p => (datAll p.1).bind fun ds => if ds.length ≤ sizeLine then some (g ds, p.2) else none
theorem mDisp_some {g : List D → Rv} {fa : MA} {ρ : Rho} {cs cs' : Cs} {z : Rv} (h : mDisp g fa ρ cs = some (z, cs')) : ∃ rs ds, fa ρ cs = some (rs, cs') ∧ datAll rs = some ds ∧ ds.length ≤ sizeLine ∧ g ds = z := by
  unfold mDisp at h
  obtain ⟨⟨x, cs1⟩, h1, h⟩ := Option.bind_eq_some_iff.mp h
  obtain ⟨d, h3, h⟩ := Option.bind_eq_some_iff.mp h
  split at h
  · cases h
    exact ⟨x, d, h1, h3, by assumption, rfl⟩
  · cases h
def xLst (fa : MA) : ME := mDisp .fr fa
def xTup (fa : MA) : ME := mDisp (fun ds => .dat (.tuple ds)) fa
theorem xe_lst {es : List Expr} {fa : MA} {pos : Pos} (ha : XA X fa es) : XE X (xLst fa) (.List es pos) :=
  pe_weak (pe_lst ha) fun σ H Q ⟨ρ, O, cs, z, cs', e, en, w, p⟩ => by
    obtain ⟨rs, ds, h1, h2, h3, rfl⟩ := mDisp_some e
    refine ⟨ρ, O, cs, rs, cs', h1, en, w, fun vs H1 c1 w1 r1 => ?_⟩
    have ra := datAll_rp r1 h2
    exact ⟨by rw [ra.length]; exact h3, post_list w1 ra (p.step c1 w1)⟩
theorem xe_tup {es : List Expr} {fa : MA} {pos : Pos} {x1} (ha : XA X fa es) : XE X (xTup fa) (.Tuple es x1 pos) :=
  pe_weak (pe_tup ha) fun σ H Q ⟨ρ, O, cs, z, cs', e, en, w, p⟩ => by
    obtain ⟨rs, ds, h1, h2, h3, rfl⟩ := mDisp_some e
    refine ⟨ρ, O, cs, rs, cs', h1, en, w, fun vs H1 c1 w1 r1 => ?_⟩
    have ra := datAll_rp r1 h2
    exact ⟨by rw [ra.length]; exact h3, post_tup w1 ra (p.step c1 w1)⟩

/-! truth, tests -/
def tru : D → Option Bool
  | .none => some false
  | .bool b => some b
  | .int i => some (i != 0)
  | .str x => some ((x.length : Int) != 0)
  | .list ds => some (!ds.isEmpty)
  | .tuple ds => some (!ds.isEmpty)
  | .dict ds => some (!ds.isEmpty)
theorem isEmpty_rp {K : PySem.W.Frag} {H : Hp} {vs : List V} {ds : List D} (r : RpAll K H vs ds) : vs.isEmpty = ds.isEmpty := by cases r <;> rfl
theorem tru_v {K : PySem.W.Frag} {O : List (Option Addr)} {H : Hp} {v : V} {d : D} {k : Bool} (h : Sh K O H v d) (e : tru d = some k) (hd : ∀ ds, d ≠ .dict ds) : TruV K v H k := by
  cases d with
  | none => cases h.none; cases e; rfl
  | bool b => cases h.bool; cases e; rfl
  | int i => cases h.int; cases e; rfl
  | str x => obtain ⟨rfl, hz⟩ := h.str; cases e; exact ⟨hz, rfl⟩
  | list ds =>
    obtain ⟨a, vs, rfl, q, r⟩ := h.list
    cases e
    exact .inl ⟨vs, q.sq, by rw [isEmpty_rp r]⟩
  | tuple ds =>
    obtain ⟨a, vs, rfl, q, r⟩ := h.tuple
    cases e
    exact .inr (.inl ⟨vs, q, by rw [isEmpty_rp r]⟩)
  | dict ds => exact absurd rfl (hd ds)
/-- a value's truth as the machine tells it (no dict) -/
def truD : D → Option Bool
  | .dict _ => none
  | d => tru d
theorem truD_v {K : PySem.W.Frag} {O : List (Option Addr)} {H : Hp} {v : V} {d : D} {k : Bool} (h : Sh K O H v d) (e : truD d = some k) : TruV K v H k := by
  cases d with
  | dict ds => cases e
  | _ => exact tru_v h e (fun _ z => by cases z)
def mTru (fa : ME) : MT := fun ρ cs => (fa ρ cs).bind fun p => (rd (deg p.1) p.2).bind fun d => (truD d).map fun k => (k, p.2)
theorem mTru_some {fa : ME} {ρ : Rho} {cs cs' : Cs} {k : Bool} (h : mTru fa ρ cs = some (k, cs')) : ∃ x d, fa ρ cs = some (x, cs') ∧ rd (deg x) cs' = some d ∧ truD d = some k := by
  unfold mTru at h
  obtain ⟨⟨x, cs1⟩, h1, h⟩ := Option.bind_eq_some_iff.mp h
  obtain ⟨d, h3, h⟩ := Option.bind_eq_some_iff.mp h
  obtain ⟨z', h5, h⟩ := Option.map_eq_some_iff.mp h
  cases h
  exact ⟨x, d, h1, h3, h5⟩
theorem xt_of {a : Expr} {fa : ME} (ha : XE X fa a) (he : ∀ whole, isTrue a X.env whole = (do let v ← whole; standAt a.pos; holding [v] (truthy v)) := by intro _; rfl) : XT X (mTru fa) a :=
  pt_weak (pt_truth ha he) fun σ H Q ⟨ρ, O, cs, k, cs', e, en, w, p⟩ => by
    obtain ⟨x, d, h1, h2, h3⟩ := mTru_some e
    exact ⟨ρ, O, cs, x, cs', h1, en, w, fun v1 H1 c1 w1 r1 => ⟨k, truD_v (r1.deg.sh w1 h2) h3, p H1 c1 w1⟩⟩
end
end DL
namespace DL
open PySem PySem.Spec PyProof.Rows L2

/-! ### operations by data -/
abbrev di (i : Int) : Rv := .dat (.int i)
abbrev db (b : Bool) : Rv := .dat (.bool b)
/-- room in C's stack -/
structure Rm (X : Cx) : Prop where
  hd : X.A.handled = none
  un : X.A.units + 200 < cLine
  gd : X.A.guards = some []
  calm : X.calm = true
  nd : X.base.NoDigits
section
variable {X : Cx}
theorem lst_rd {pins : List (Addr × Obj)} {s : Shared} {σ : L2.St} {H : Hp} (I : Inv X pins σ H s) {a : Addr} {xs : List V} (q : LstAt X.K H a xs) : xs.length ≤ sizeLine ∧ ∃ (its : List Value) (n : Nat), Vals xs its ∧ s.heap.get? a = some { cls := .type "list", data := .seq its.toArray n } := by
  rcases q with q | ⟨its, n, h1, h2, h3⟩
  · exact q.ok I.hok
  · exact ⟨h2, its, n, h3, I.kIn a _ h1⟩
theorem OpS.or_l {K : PySem.W.Frag} {r r' : R2} {g : D → D → Option Rv} (h : OpS K r g) : OpS K (fun x y H Q => r x y H Q ∨ r' x y H Q) g := fun O cs H x y d e z Q w a b c p => .inl (h O cs H x y d e z Q w a b c p)
theorem ite_some {α : Type} {c : Prop} [Decidable c] {a b : α} (h : (if c then some a else none) = some b) : c ∧ a = b := by
  split at h
  · exact ⟨by assumption, Option.some.inj h⟩
  · cases h
/-- + -/
def dAdd : D → D → Option Rv
  | .int i, .int j => some (di (i + j))
  | .str x, .str y => if x.length + y.length ≤ sizeLine then some (.dat (.str (x ++ y))) else none
  | .list x, .list y => if x.length + y.length ≤ sizeLine then some (.fr (x ++ y)) else none
  | .tuple x, .tuple y => if x.length + y.length ≤ sizeLine then some (.dat (.tuple (x ++ y))) else none
  | _, _ => none
def rCatL (K : PySem.W.Frag) : R2 := fun x y H Q => ∃ l b xs zs, x = .ref l ∧ y = .ref b ∧ LstAt K H l xs ∧ LstAt K H b zs ∧ xs.length + zs.length ≤ sizeLine ∧ ∀ p, H p = none → Q (.ref p) (upd H p (.lst (xs ++ zs)))
theorem op_catL : OpR X (binaryOp .Add) (rCatL X.K) := by
  intro pins s σ H x y v u Q I rx ry h
  obtain ⟨l, b, xs, zs, rfl, rfl, h1, h2, hz, q⟩ := h
  cases rx
  cases ry
  obtain ⟨_, its, n, r, e⟩ := lst_rd I h1
  obtain ⟨_, its2, n2, r2, e2⟩ := lst_rd I h2
  have hl := r.length
  have hl2 := r2.length
  refine PySem.P.add_list e e2 ?_ (by rw [List.size_toArray, List.size_toArray]; omega)
  have ea : its.toArray ++ its2.toArray = (its ++ its2).toArray := by simp
  rw [ea]
  exact ⟨.ref _, _, I.lnew (t' := s.toks) (r.append r2) (by rw [List.length_append]; omega), rfl, q _ I.fresh⟩
def rAddD (K : PySem.W.Frag) : R2 := fun x y H Q => (rI0 (fun i j => .int (i + j)) x y H Q ∨ (∃ i j, x = .str i ∧ y = .str j ∧ i.length + j.length ≤ sizeLine ∧ Q (.str (i ++ j)) H)) ∨ rCatL K x y H Q ∨ rCatA K x y H Q
theorem op_addD : OpR X (binaryOp .Add) (rAddD X.K) := OpR.or (OpR.or op_add op_add_str) (OpR.or op_catL op_catA)
theorem str_len (x y : Str) : (x ++ y).length = x.length + y.length := by
  show (x.cps ++ y.cps).size = x.cps.size + y.cps.size
  exact Array.size_append
theorem addS {K : PySem.W.Frag} : OpS K (rAddD K) dAdd := by
  intro O cs H x y d e z Q w sx sy g p
  cases d with
  | int i =>
    cases e with
    | int j =>
      cases g
      exact .inl (.inl ⟨i, j, sx.int, sy.int, post_int w p⟩)
    | _ => cases g
  | str i =>
    cases e with
    | str j =>
      obtain ⟨rfl, h1⟩ := sx.str
      obtain ⟨rfl, h2⟩ := sy.str
      obtain ⟨hz, rfl⟩ := ite_some g
      exact .inl (.inr ⟨i, j, rfl, rfl, hz, post_str w (by rw [str_len]; exact hz) p⟩)
    | _ => cases g
  | list ds =>
    cases e with
    | list es =>
      obtain ⟨a, vs, rfl, q1, r1⟩ := sx.list
      obtain ⟨b, us, rfl, q2, r2⟩ := sy.list
      obtain ⟨hz, rfl⟩ := ite_some g
      exact .inr (.inl ⟨a, b, vs, us, rfl, rfl, q1, q2, by rw [r1.length, r2.length]; exact hz, post_list w (r1.append r2) p⟩)
    | _ => cases g
  | tuple ds =>
    cases e with
    | tuple es =>
      have sx' := sx
      have sy' := sy
      obtain ⟨a, vs, rfl, q1, r1⟩ := sx.tuple
      obtain ⟨b, us, rfl, q2, r2⟩ := sy.tuple
      obtain ⟨hz, rfl⟩ := ite_some g
      · refine .inr (.inr ⟨a, b, vs, us, rfl, rfl, q1, q2, by rw [r1.length, r2.length]; exact hz, fun e => ?_, fun _ e => ?_, fun _ _ => post_tup w (r1.append r2) p⟩)
        · subst e
          cases r1
          rcases sy' with sy' | ⟨_, _, _, _, h, _⟩
          · exact post_val w sy' p
          · cases h
        · subst e
          cases r2
          rcases sx' with sx' | ⟨_, _, _, _, h, _⟩
          · exact post_val w sx' (by simpa using p)
          · cases h
    | _ => cases g
  | _ => cases g
/-- ints alone -/
def dI (g : Int → Int → Option Rv) : D → D → Option Rv
  | .int i, .int j => g i j
  | _, _ => none
theorem intS {K : PySem.W.Frag} {C : Int → Int → Prop} [∀ i j, Decidable (C i j)] {f : Int → Int → Int} : OpS K (rI C fun i j => .int (f i j)) (dI fun i j => if C i j then some (di (f i j)) else none) := by
  intro O cs H x y d e z Q w sx sy g p
  cases d with
  | int i =>
    cases e with
    | int j =>
      change (if C i j then some (di (f i j)) else none) = some z at g
      obtain ⟨hz, rfl⟩ := ite_some g
      exact ⟨i, j, sx.int, sy.int, hz, post_int w p⟩
    | _ => cases g
  | _ => cases g
theorem intS0 {K : PySem.W.Frag} {f : Int → Int → Int} : OpS K (rI0 fun i j => .int (f i j)) (dI fun i j => some (di (f i j))) := by
  intro O cs H x y d e z Q w sx sy g p
  cases d with
  | int i =>
    cases e with
    | int j =>
      cases g
      exact ⟨i, j, sx.int, sy.int, post_int w p⟩
    | _ => cases g
  | _ => cases g
def dSub := dI fun i j => some (di (i - j))
theorem subS {K : PySem.W.Frag} : OpS K (rI0 fun i j => .int (i - j)) dSub := intS0
def dMod := dI fun i j => if j ≠ 0 then some (di (i.fmod j)) else none
theorem modS {K : PySem.W.Frag} : OpS K (rI (fun _ j => j ≠ 0) fun i j => .int (i.fmod j)) dMod := intS
/-- // -/
def CDv (i j : Int) : Prop := j ≠ 0 ∧ (j.natAbs.log2 < 9000 ∨ i.natAbs.log2 ≤ j.natAbs.log2 + 4000)
theorem CDv.py {i j : Int} (h : CDv i j) : Builtin.divisionGoesByPylong i j = false := by
  rcases h with ⟨h0, h | h⟩
  · exact PyProof.noPylong_of_log2 h
  · unfold Builtin.divisionGoesByPylong
    have hj : (j == 0) = false := beq_eq_false_iff_ne.mpr h0
    simp only [hj, Bool.false_eq_true, if_false, Bool.and_eq_false_iff, decide_eq_false_iff_not]
    right
    by_cases hi : (i == 0) = true
    · simp [hi]
    · have hi' : (i == 0) = false := by simpa using hi
      simp only [hi', Bool.false_eq_true, if_false]
      omega
instance (i j : Int) : Decidable (CDv i j) := inferInstanceAs (Decidable (_ ∧ _))
theorem op_fdv : OpR X (binaryOp .FloorDiv) (rI CDv fun i j => .int (i.fdiv j)) := opI fun i j _ _ _ _ _ hc q => floordiv_int hc.1 q (.inl hc.py)
def dDiv := dI fun i j => if CDv i j then some (di (i.fdiv j)) else none
theorem divS {K : PySem.W.Frag} : OpS K (rI CDv fun i j => .int (i.fdiv j)) dDiv := intS
/-- ** -/
def CPw (i j : Int) : Prop := 0 ≤ j ∧ (Builtin.Int.intBits i : Int) * j ≤ 2 ^ 27
instance (i j : Int) : Decidable (CPw i j) := inferInstanceAs (Decidable (_ ∧ _))
theorem op_pw : OpR X (binaryOp .Pow) (rI CPw fun i j => .int (i ^ j.toNat)) := opI fun i j _ _ _ _ _ hc q => pow_int hc.1 hc.2 q
def dPow := dI fun i j => if CPw i j then some (di (i ^ j.toNat)) else none
theorem powS {K : PySem.W.Frag} : OpS K (rI CPw fun i j => .int (i ^ j.toNat)) dPow := intS
/-- * -/
def CMl (i j : Int) : Prop := i.natAbs.log2 + j.natAbs.log2 < 100000000
instance (i j : Int) : Decidable (CMl i j) := inferInstanceAs (Decidable (_ < _))
theorem CMl.ok {i j : Int} (h : CMl i j) : IntMulOk i j := by
  have bb : ∀ x : Int, Builtin.Int.intBits x ≤ x.natAbs.log2 + 1 := fun x => by
    unfold Builtin.Int.intBits
    split <;> omega
  have h1 := bb i
  have h2 := bb j
  have h3 : i.natAbs.log2 + j.natAbs.log2 < 100000000 := h
  have el : bitsLine = 134217728 := by decide
  intro zz
  rw [Bool.and_eq_true] at zz
  have z2 := zz.2
  unfold Builtin.Int.intTooBig at z2
  have z3 := of_decide_eq_true z2
  rw [el] at z3
  omega
theorem op_ml : OpR X (binaryOp .Mult) (rI CMl fun i j => .int (i * j)) := opI fun _ _ _ _ _ _ _ hc q => mul_int q hc.ok
def rRepL : R2 := fun x y H Q => ∃ l k xs, x = .ref l ∧ y = .int k ∧ H l = some (.lst xs) ∧ -(2 ^ 63) ≤ k ∧ k < 2 ^ 63 ∧ xs.length * k.toNat ≤ sizeLine ∧
  ∀ p, H p = none → Q (.ref p) (upd H p (.lst (List.replicate k.toNat xs).flatten))
def rMlS : R2 := fun x y H Q => ∃ (z : Str) (k : Int), x = .str z ∧ y = .int k ∧ 0 ≤ k ∧ k < 2 ^ 31 ∧ z.length * k.toNat ≤ 16777216 ∧ Q (.str (Txt.mul z k)) H
theorem tooLong_ok {n : Nat} (h : n ≤ 16777216) : Builtin.Str.tooLong n = false := by
  unfold Builtin.Str.tooLong
  rw [decide_eq_false_iff_not, sizeLine_eq]
  omega
theorem op_mlS : OpR X (binaryOp .Mult) rMlS := by
  intro pins s σ H x y v u Q I rx ry h
  obtain ⟨z, k, rfl, rfl, h0, h1, h2, q⟩ := h
  obtain ⟨t, rfl⟩ := rx
  obtain ⟨t', rfl⟩ := ry
  refine PySem.SB.mul ⟨?_, fun _ _ => ?_, fun _ _ => tooLong_ok h2⟩ fun t2 k2 => ⟨.str _, H, I.tok _, ⟨_, rfl⟩, q⟩
  · rw [decide_eq_false (by omega), decide_eq_false (by omega)]; rfl
  · have hk : 1 ≤ k := by omega
    have hz : (z.length : Int) * k ≤ 16777216 := by
      have h3 : ((z.length * k.toNat : Nat) : Int) ≤ 16777216 := Int.ofNat_le.mpr h2
      rw [Int.natCast_mul, Int.toNat_of_nonneg h0] at h3
      exact h3
    have h4 : (z.length : Int) ≤ (z.length : Int) * k := by
      have := Int.mul_le_mul_of_nonneg_left hk (Int.natCast_nonneg z.length)
      simpa using this
    have h5 : (4294967296 : Int) ≤ (2 ^ 63 - 1) / k := by
      rw [Int.le_ediv_iff_mul_le (by omega)]
      omega
    omega
end
end DL
namespace DL
open PySem PySem.Spec PyProof.Rows L2
section
variable {X : Cx}
/-! comparisons -/
/-- by data: C what is asked -/
def rD (K : PySem.W.Frag) (C : D → D → Prop) (g : D → D → Bool) : R2 := fun x y H Q => ∃ d e, Rp K H x d ∧ Rp K H y e ∧ C d e ∧ Q (.bl (g d e)) H
theorem dS {K : PySem.W.Frag} {C : D → D → Prop} [∀ d e, Decidable (C d e)] {g : D → D → Bool} : OpS K (rD K C g) (fun d e => if C d e then some (db (g d e)) else none) := by
  intro O cs H x y d e z Q w sx sy h p
  obtain ⟨hc, rfl⟩ := ite_some h
  exact ⟨d, e, sx.rp, sy.rp, hc, post_bool w p⟩
def CEq (d e : D) : Prop := d.plain = true ∧ e.plain = true ∧ min d.depth e.depth ≤ 100
instance (d e : D) : Decidable (CEq d e) := inferInstanceAs (Decidable (_ ∧ _))
theorem op_eqD' (rm : Rm X) : OpR X (compareOp .Eq) (rD X.K CEq PyData.eqv) := by
  intro pins s σ H x y v u Q I rx ry h
  obtain ⟨d, e, hd, he, hc, q⟩ := h
  obtain ⟨as, r1⟩ := hd.reads I (noF_plain hc.1) _ rx
  obtain ⟨bs, r2⟩ := he.reads I (noF_plain hc.2.1) _ ry
  have hu := rm.un
  have := hc.2.2
  exact PySem.SeqAt.eq_plain r1 r2 hc.1 hc.2.1 (by omega) ⟨.bl _, H, I, rfl, q⟩
theorem op_neD' (rm : Rm X) : OpR X (compareOp .NotEq) (rD X.K CEq fun d e => !PyData.eqv d e) := by
  intro pins s σ H x y v u Q I rx ry h
  obtain ⟨d, e, hd, he, hc, q⟩ := h
  obtain ⟨as, r1⟩ := hd.reads I (noF_plain hc.1) _ rx
  obtain ⟨bs, r2⟩ := he.reads I (noF_plain hc.2.1) _ ry
  have hu := rm.un
  have := hc.2.2
  exact PySem.SeqAt.ne_plain r1 r2 hc.1 hc.2.1 (by omega) ⟨.bl _, H, I, rfl, q⟩
def dEq (d e : D) : Option Rv := if CEq d e then some (db (PyData.eqv d e)) else none
def dNe (d e : D) : Option Rv := if CEq d e then some (db (!PyData.eqv d e)) else none
theorem eqS {K : PySem.W.Frag} : OpS K (rD K CEq PyData.eqv) dEq := dS
theorem neS {K : PySem.W.Frag} : OpS K (rD K CEq fun d e => !PyData.eqv d e) dNe := dS
def CLt (d e : D) : Prop := PySem.W.alike d e = true ∧ d ≠ .none ∧ min d.depth e.depth ≤ 100 ∧ noF d = true ∧ noF e = true
def isNonD : D → Bool
  | .none => true
  | _ => false
theorem isNonD_iff (d : D) : isNonD d = false ↔ d ≠ .none := by cases d <;> simp [isNonD]
instance (d e : D) : Decidable (CLt d e) := decidable_of_iff (PySem.W.alike d e = true ∧ isNonD d = false ∧ min d.depth e.depth ≤ 100 ∧ noF d = true ∧ noF e = true) (by unfold CLt; rw [isNonD_iff])
theorem cmp_any {op : CmpOp} {C : D → D → Prop} {g : D → D → Bool} (nf : ∀ d e, C d e → noF d = true ∧ noF e = true)
    (rule : ∀ (s : Shared) (a b : Value) (d e : D) (as bs : List Addr) (Q : Value → Shared → Prop), Reads s.heap a d as → Reads s.heap b e bs → C d e → Q (.bool (g d e)) s → wpAny (model X.prog X.w) X.A (compareOp op a b) Q X.xe s) : OpR X (compareOp op) (rD X.K C g) := by
  intro pins s σ H x y v u Q I rx ry h
  obtain ⟨d, e, hd, he, hc, q⟩ := h
  obtain ⟨as, r1⟩ := hd.reads I (nf _ _ hc).1 _ rx
  obtain ⟨bs, r2⟩ := he.reads I (nf _ _ hc).2 _ ry
  exact rule s v u d e as bs _ r1 r2 hc ⟨.bl _, H, I, rfl, q⟩
theorem op_ltD (rm : Rm X) : OpR X (compareOp .Lt) (rD X.K CLt fun d e => PySem.W.dataLt d e) := cmp_any (fun _ _ h => h.2.2.2) fun s a b d e as bs Q r1 r2 hc q => by
  have hu := rm.un
  have := hc.2.2.1
  exact PySem.W.lt_data r1 r2 hc.1 hc.2.1 (by omega) q
theorem op_gtD (rm : Rm X) : OpR X (compareOp .Gt) (rD X.K CLt fun d e => PySem.W.dataLt e d) := cmp_any (fun _ _ h => h.2.2.2) fun s a b d e as bs Q r1 r2 hc q => by
  have hu := rm.un
  have := hc.2.2.1
  exact PySem.W.gt_data r1 r2 hc.1 hc.2.1 (by omega) q
theorem op_leD (rm : Rm X) : OpR X (compareOp .LtE) (rD X.K CLt fun d e => !PySem.W.dataLt e d) := cmp_any (fun _ _ h => h.2.2.2) fun s a b d e as bs Q r1 r2 hc q => by
  have hu := rm.un
  have := hc.2.2.1
  exact PySem.W.le_data r1 r2 hc.1 hc.2.1 (by omega) q
theorem op_geD (rm : Rm X) : OpR X (compareOp .GtE) (rD X.K CLt fun d e => !PySem.W.dataLt d e) := cmp_any (fun _ _ h => h.2.2.2) fun s a b d e as bs Q r1 r2 hc q => by
  have hu := rm.un
  have := hc.2.2.1
  exact PySem.W.ge_data r1 r2 hc.1 hc.2.1 (by omega) q
/-- ints by themselves, else alike data -/
def dCmp (f : Int → Int → Bool) (g : D → D → Bool) : D → D → Option Rv
  | .int i, .int j => some (db (f i j))
  | d, e => if CLt d e then some (db (g d e)) else none
theorem cmpS {K : PySem.W.Frag} {f : Int → Int → Bool} {g : D → D → Bool} : OpS K (fun x y H Q => rI0 (fun i j => .bl (f i j)) x y H Q ∨ rD K CLt g x y H Q) (dCmp f g) := by
  intro O cs H x y d e z Q w sx sy h p
  by_cases hi : ∃ i j, d = .int i ∧ e = .int j
  · obtain ⟨i, j, rfl, rfl⟩ := hi
    cases h
    exact .inl ⟨i, j, sx.int, sy.int, post_bool w p⟩
  · have h' : (if CLt d e then some (db (g d e)) else none) = some z := by
      unfold dCmp at h
      split at h
      · exact absurd ⟨_, _, rfl, rfl⟩ hi
      · exact h
    obtain ⟨hc, rfl⟩ := ite_some h'
    exact .inr ⟨d, e, sx.rp, sy.rp, hc, post_bool w p⟩
def dLt := dCmp (fun i j => decide (i < j)) fun d e => PySem.W.dataLt d e
def dGt := dCmp (fun i j => decide (j < i)) fun d e => PySem.W.dataLt e d
def dLe := dCmp (fun i j => decide (i ≤ j)) fun d e => !PySem.W.dataLt e d
def dGe := dCmp (fun i j => decide (j ≤ i)) fun d e => !PySem.W.dataLt d e
theorem xe_lt {a b : Expr} {fa fb : ME} {pos : Pos} (rm : Rm X) (ha : XE X fa a) (hb : XE X fb b) : XE X (mB dLt fa fb) (.Compare a [.Lt] [b] pos) := xe_cmp (OpR.or op_lt (op_ltD rm)) cmpS ha hb
theorem xe_gt {a b : Expr} {fa fb : ME} {pos : Pos} (rm : Rm X) (ha : XE X fa a) (hb : XE X fb b) : XE X (mB dGt fa fb) (.Compare a [.Gt] [b] pos) := xe_cmp (OpR.or op_gt (op_gtD rm)) cmpS ha hb
theorem xe_le {a b : Expr} {fa fb : ME} {pos : Pos} (rm : Rm X) (ha : XE X fa a) (hb : XE X fb b) : XE X (mB dLe fa fb) (.Compare a [.LtE] [b] pos) := xe_cmp (OpR.or op_le (op_leD rm)) cmpS ha hb
theorem xe_ge {a b : Expr} {fa fb : ME} {pos : Pos} (rm : Rm X) (ha : XE X fa a) (hb : XE X fb b) : XE X (mB dGe fa fb) (.Compare a [.GtE] [b] pos) := xe_cmp (OpR.or op_ge (op_geD rm)) cmpS ha hb
theorem xe_eq {a b : Expr} {fa fb : ME} {pos : Pos} (rm : Rm X) (ha : XE X fa a) (hb : XE X fb b) : XE X (mB dEq fa fb) (.Compare a [.Eq] [b] pos) := xe_cmp (op_eqD' rm) eqS ha hb
theorem xe_ne {a b : Expr} {fa fb : ME} {pos : Pos} (rm : Rm X) (ha : XE X fa a) (hb : XE X fb b) : XE X (mB dNe fa fb) (.Compare a [.NotEq] [b] pos) := xe_cmp (op_neD' rm) neS ha hb
theorem xe_add {a b : Expr} {fa fb : ME} {pos : Pos} (ha : XE X fa a) (hb : XE X fb b) : XE X (mB dAdd fa fb) (.BinOp a .Add b pos) := xe_bin op_addD addS ha hb
theorem xe_sub {a b : Expr} {fa fb : ME} {pos : Pos} (ha : XE X fa a) (hb : XE X fb b) : XE X (mB dSub fa fb) (.BinOp a .Sub b pos) := xe_bin op_sub subS ha hb
theorem xe_mod {a b : Expr} {fa fb : ME} {pos : Pos} (ha : XE X fa a) (hb : XE X fb b) : XE X (mB dMod fa fb) (.BinOp a .Mod b pos) := xe_bin op_modN modS ha hb
theorem xe_div {a b : Expr} {fa fb : ME} {pos : Pos} (ha : XE X fa a) (hb : XE X fb b) : XE X (mB dDiv fa fb) (.BinOp a .FloorDiv b pos) := xe_bin op_fdv divS ha hb
theorem xe_pow {a b : Expr} {fa fb : ME} {pos : Pos} (ha : XE X fa a) (hb : XE X fb b) : XE X (mB dPow fa fb) (.BinOp a .Pow b pos) := xe_bin op_pw powS ha hb
/-! in, not in -/
def CIn (d e : D) : Prop := match e with
  | .list xs => PyData.plainAll xs = true ∧ d.plain = true ∧ min (PyData.depthAll xs) d.depth ≤ 100
  | .tuple xs => PyData.plainAll xs = true ∧ d.plain = true ∧ min (PyData.depthAll xs) d.depth ≤ 100
  | .str _ => match d with
    | .str _ => True
    | _ => False
  | _ => False
instance (d e : D) : Decidable (CIn d e) := by
  unfold CIn
  split
  · exact inferInstanceAs (Decidable (_ ∧ _))
  · exact inferInstanceAs (Decidable (_ ∧ _))
  · split
    · exact isTrue trivial
    · exact isFalse not_false
  · exact isFalse not_false
def inD (d e : D) : Bool := match e with
  | .list xs => xs.any fun y => PyData.eqv y d
  | .tuple xs => xs.any fun y => PyData.eqv y d
  | .str y => match d with
    | .str x => !(Builtin.Str.occurrences y x 0 y.length 1).isEmpty
    | _ => false
  | _ => false
theorem op_inD (rm : Rm X) : OpR X (compareOp .In) (rD X.K CIn inD) := by
  intro pins s σ H x y v u Q I rx ry h
  obtain ⟨d, e, hd, he, hc, q⟩ := h
  have hu := rm.un
  cases e with
  | list xs =>
    obtain ⟨as, r1⟩ := hd.reads I (noF_plain hc.2.1) _ rx
    obtain ⟨bs, r2⟩ := he.reads I (noF_plain (d := .list xs) hc.1) _ ry
    have h3 := hc.2.2
    exact PySem.SeqAt.in_list_data r2 r1 hc.1 hc.2.1 (by omega) ⟨.bl _, H, I, rfl, q⟩
  | tuple xs =>
    obtain ⟨as, r1⟩ := hd.reads I (noF_plain hc.2.1) _ rx
    obtain ⟨bs, r2⟩ := he.reads I (noF_plain (d := .tuple xs) hc.1) _ ry
    have h3 := hc.2.2
    exact PySem.SeqAt.in_tuple_data r2 r1 hc.1 hc.2.1 (by omega) ⟨.bl _, H, I, rfl, q⟩
  | str b =>
    cases d with
    | str a =>
      cases hd
      cases he
      exact op_in_str pins s σ H _ _ v u Q I rx ry ⟨a, b, rfl, rfl, q⟩
    | _ => exact hc.elim
  | _ => exact hc.elim
theorem op_ninD (rm : Rm X) : OpR X (compareOp .NotIn) (rD X.K CIn fun d e => !inD d e) := by
  intro pins s σ H x y v u Q I rx ry h
  obtain ⟨d, e, hd, he, hc, q⟩ := h
  have hu := rm.un
  cases e with
  | list xs =>
    obtain ⟨as, r1⟩ := hd.reads I (noF_plain hc.2.1) _ rx
    obtain ⟨bs, r2⟩ := he.reads I (noF_plain (d := .list xs) hc.1) _ ry
    have h3 := hc.2.2
    exact PySem.SeqAt.notIn_list_data r2 r1 hc.1 hc.2.1 (by omega) ⟨.bl _, H, I, rfl, q⟩
  | tuple xs =>
    obtain ⟨as, r1⟩ := hd.reads I (noF_plain hc.2.1) _ rx
    obtain ⟨bs, r2⟩ := he.reads I (noF_plain (d := .tuple xs) hc.1) _ ry
    have h3 := hc.2.2
    exact PySem.SeqAt.notIn_tuple_data r2 r1 hc.1 hc.2.1 (by omega) ⟨.bl _, H, I, rfl, q⟩
  | str b =>
    cases d with
    | str a =>
      cases hd
      cases he
      exact L2.op_notIn_str pins s σ H _ _ v u Q I rx ry ⟨a, b, rfl, rfl, q⟩
    | _ => exact hc.elim
  | _ => exact hc.elim
def dIn (d e : D) : Option Rv := if CIn d e then some (db (inD d e)) else none
def dNotIn (d e : D) : Option Rv := if CIn d e then some (db (!inD d e)) else none
theorem xe_in {a b : Expr} {fa fb : ME} {pos : Pos} (rm : Rm X) (ha : XE X fa a) (hb : XE X fb b) (hm : behindInMarks .In b = false := by rfl) : XE X (mB dIn fa fb) (.Compare a [.In] [b] pos) := xe_cmp (op_inD rm) dS ha hb hm
theorem xe_notin {a b : Expr} {fa fb : ME} {pos : Pos} (rm : Rm X) (ha : XE X fa a) (hb : XE X fb b) (hm : behindInMarks .NotIn b = false := by rfl) : XE X (mB dNotIn fa fb) (.Compare a [.NotIn] [b] pos) := xe_cmp (op_ninD rm) dS ha hb hm
/-! is: with None, True, False -/
def isD (d e : D) : Option Bool := match e with
  | .none => some (match d with
    | .none => true
    | _ => false)
  | .bool b => some (match d with
    | .bool a => a == b
    | _ => false)
  | _ => none
theorem is_bool_gen {M : Model} {A : Around} {E : Value → Shared → Prop} {s : Shared} {Q : Value → Shared → Prop} {v : Value} {b : Bool} (hv : ∀ i, v ≠ .builtin i) (h : Q (.bool (v == .bool b)) s) : wpAny M A (compareOp .Is v (.bool b)) Q E s := by
  cases v <;> first | exact wpAny_pure h | exact absurd rfl (hv _)
theorem isnot_bool_gen {M : Model} {A : Around} {E : Value → Shared → Prop} {s : Shared} {Q : Value → Shared → Prop} {v : Value} {b : Bool} (hv : ∀ i, v ≠ .builtin i) (h : Q (.bool (!(v == .bool b))) s) : wpAny M A (compareOp .IsNot v (.bool b)) Q E s := by
  cases v <;> first | exact wpAny_pure h | exact absurd rfl (hv _)
theorem no_blt {x : V} {v : Value} (r : RelV x v) : ∀ i, v ≠ .builtin i := fun i e => by
  subst e
  cases x with
  | non => cases (show Value.builtin i = .none from r)
  | bl _ => cases (show Value.builtin i = .bool _ from r)
  | int _ => obtain ⟨t, h⟩ := (show ∃ t, Value.builtin i = .int _ t from r); cases h
  | str _ => obtain ⟨t, h⟩ := (show ∃ t, Value.builtin i = .str _ t from r); cases h
  | byt _ => obtain ⟨t, h⟩ := (show ∃ t, Value.builtin i = .bytes _ t from r); cases h
  | flt _ => obtain ⟨t, h⟩ := (show ∃ t, Value.builtin i = .float _ t from r); cases h
  | ref _ => cases (show Value.builtin i = .ref _ from r)
  | ty _ => cases (show Value.builtin i = .type _ from r)
theorem isV {K : PySem.W.Frag} {H : Hp} {x y : V} {v u : Value} {d e : D} {k : Bool} (hd : Rp K H x d) (he : Rp K H y e) (rx : RelV x v) (ry : RelV y u) (h : isD d e = some k) : (v == u) = k ∧ (u = .none ∨ ∃ b, u = .bool b) := by
  cases he with
  | non =>
    cases (show u = .none from ry)
    cases h
    refine ⟨?_, .inl rfl⟩
    rw [rx.none_iff]
    cases hd <;> rfl
  | bl b =>
    cases (show u = .bool b from ry)
    cases h
    refine ⟨?_, .inr ⟨b, rfl⟩⟩
    cases hd with
    | non => cases (show v = .none from rx); rfl
    | bl a => cases (show v = .bool a from rx); cases a <;> cases b <;> rfl
    | int i => obtain ⟨t, rfl⟩ := (show ∃ t, v = .int i t from rx); rfl
    | str i => obtain ⟨t, rfl⟩ := (show ∃ t, v = .str i t from rx); rfl
    | lst _ _ => cases (show v = .ref _ from rx); rfl
    | tup _ _ => cases (show v = .ref _ from rx); rfl
    | dct _ _ _ => cases (show v = .ref _ from rx); rfl
    | fn _ => cases (show v = .ref _ from rx); rfl
  | _ => cases h
def rIs (K : PySem.W.Frag) (f : Bool → Bool) : R2 := fun x y H Q => ∃ d e k, Rp K H x d ∧ Rp K H y e ∧ isD d e = some k ∧ Q (.bl (f k)) H
theorem op_isD : OpR X (compareOp .Is) (rIs X.K id) := by
  intro pins s σ H x y v u Q I rx ry h
  obtain ⟨d, e, k, hd, he, hk, q⟩ := h
  obtain ⟨h1, h2⟩ := isV hd he rx ry hk
  rcases h2 with rfl | ⟨b, rfl⟩
  · exact is_none_gen ⟨.bl _, H, I, by rw [h1]; rfl, q⟩
  · exact is_bool_gen (no_blt rx) ⟨.bl _, H, I, by rw [h1]; rfl, q⟩
theorem op_isnD : OpR X (compareOp .IsNot) (rIs X.K not) := by
  intro pins s σ H x y v u Q I rx ry h
  obtain ⟨d, e, k, hd, he, hk, q⟩ := h
  obtain ⟨h1, h2⟩ := isV hd he rx ry hk
  rcases h2 with rfl | ⟨b, rfl⟩
  · exact isnot_none_gen ⟨.bl _, H, I, by rw [h1]; rfl, q⟩
  · exact isnot_bool_gen (no_blt rx) ⟨.bl _, H, I, by rw [h1]; rfl, q⟩
def dIs (f : Bool → Bool) (d e : D) : Option Rv := (isD d e).map fun k => db (f k)
theorem isS {K : PySem.W.Frag} {f : Bool → Bool} : OpS K (rIs K f) (dIs f) := by
  intro O cs H x y d e z Q w sx sy h p
  obtain ⟨k, hk, rfl⟩ := Option.map_eq_some_iff.mp h
  exact ⟨d, e, k, sx.rp, sy.rp, hk, post_bool w p⟩
theorem xe_is {a b : Expr} {fa fb : ME} {pos : Pos} (ha : XE X fa a) (hb : XE X fb b) : XE X (mB (dIs id) fa fb) (.Compare a [.Is] [b] pos) := xe_cmp op_isD isS ha hb
theorem xe_isnot {a b : Expr} {fa fb : ME} {pos : Pos} (ha : XE X fa a) (hb : XE X fb b) : XE X (mB (dIs not) fa fb) (.Compare a [.IsNot] [b] pos) := xe_cmp op_isnD isS ha hb
/-! not, and, or -/
def dNeg : D → Option Rv
  | .int i => some (di (-i))
  | _ => none
theorem xe_neg {a : Expr} {fa : ME} {pos : Pos} (ha : XE X fa a) : XE X (mU dNeg fa) (.UnaryOp .USub a pos) := xe_un un_neg (fun O cs H x d z Q w sx h p => by
  cases d with
  | int i => cases h; exact ⟨i, sx.int, post_int w p⟩
  | _ => cases h) ha
def dNot (d : D) : Option Rv := (truD d).map fun k => db (!k)
theorem xe_not {a : Expr} {fa : ME} {pos : Pos} (ha : XE X fa a) : XE X (mU dNot fa) (.UnaryOp .Not a pos) :=
  pe_weak (pe_notT ha) fun σ H Q ⟨ρ, O, cs, z, cs', e, en, w, p⟩ => by
    obtain ⟨x, d, h1, h2, h3⟩ := mU_some e
    obtain ⟨k, hk, rfl⟩ := Option.map_eq_some_iff.mp h3
    exact ⟨ρ, O, cs, x, cs', h1, en, w, fun v1 H1 c1 w1 r1 => ⟨k, truD_v (r1.deg.sh w1 h2) hk, post_bool w1 (p.step c1 w1)⟩⟩
def mAnd (fa fb : ME) : ME := fun ρ cs => (fa ρ cs).bind fun p => (rd (deg p.1) p.2).bind fun d => (truD d).bind fun k => if k = true then fb ρ p.2 else some (deg p.1, p.2)
def mOr (fa fb : ME) : ME := fun ρ cs => (fa ρ cs).bind fun p => (rd (deg p.1) p.2).bind fun d => (truD d).bind fun k => if k = true then some (deg p.1, p.2) else fb ρ p.2
theorem ArR.rv {K : PySem.W.Frag} {O : List (Option Addr)} {H H0 : Hp} {cs : Cs} {r : Rv} {v : V} (h : ArR K O r v H) : RvR K O H0 cs r v H := by
  cases r with
  | dat d => exact h
  | own k => exact h
  | fr c => exact h.elim
  | exn nm d => exact h
  | ft d => exact h.elim
  | gr d k n => exact h
theorem xe_and {a b : Expr} {rest : List Expr} {fa fb : ME} {pos : Pos} (ha : XE X fa a) (hb : XE X fb (.BoolOp .And (b :: rest) pos)) : XE X (mAnd fa fb) (.BoolOp .And (a :: b :: rest) pos) :=
  pe_weak (pe_andT ha hb) fun σ H Q ⟨ρ, O, cs, z, cs', e, en, w, p⟩ => by
    unfold mAnd at e
    obtain ⟨⟨x, cs1⟩, h1, e⟩ := Option.bind_eq_some_iff.mp e
    obtain ⟨d, h2, e⟩ := Option.bind_eq_some_iff.mp e
    obtain ⟨k, h3, e⟩ := Option.bind_eq_some_iff.mp e
    refine ⟨ρ, O, cs, x, cs1, h1, en, w, fun v1 H1 c1 w1 r1 => ⟨k, truD_v (r1.deg.sh w1 h2) h3, ?_⟩⟩
    cases k with
    | true => exact ⟨ρ, O, cs1, z, cs', e, en.ch c1, w1, p.step c1 w1⟩
    | false =>
      cases e
      exact p v1 H1 c1 w1 (r1.deg.rv)
theorem xe_or {a b : Expr} {rest : List Expr} {fa fb : ME} {pos : Pos} (ha : XE X fa a) (hb : XE X fb (.BoolOp .Or (b :: rest) pos)) : XE X (mOr fa fb) (.BoolOp .Or (a :: b :: rest) pos) :=
  pe_weak (pe_orT ha hb) fun σ H Q ⟨ρ, O, cs, z, cs', e, en, w, p⟩ => by
    unfold mOr at e
    obtain ⟨⟨x, cs1⟩, h1, e⟩ := Option.bind_eq_some_iff.mp e
    obtain ⟨d, h2, e⟩ := Option.bind_eq_some_iff.mp e
    obtain ⟨k, h3, e⟩ := Option.bind_eq_some_iff.mp e
    refine ⟨ρ, O, cs, x, cs1, h1, en, w, fun v1 H1 c1 w1 r1 => ⟨k, truD_v (r1.deg.sh w1 h2) h3, ?_⟩⟩
    cases k with
    | false => exact ⟨ρ, O, cs1, z, cs', e, en.ch c1, w1, p.step c1 w1⟩
    | true =>
      cases e
      exact p v1 H1 c1 w1 (r1.deg.rv)
theorem xe_or1 {a : Expr} {fa : ME} {pos : Pos} (ha : XE X fa a) : XE X fa (.BoolOp .Or [a] pos) := pe_one ha
theorem xe_and1 {a : Expr} {fa : ME} {pos : Pos} (ha : XE X fa a) : XE X fa (.BoolOp .And [a] pos) := pe_one ha
end
end DL
namespace DL
open PySem PySem.Spec PyProof.Rows L2
section
variable {X : Cx}
/-! tests -/
def mTB (f : ME) : MT := fun ρ cs => (f ρ cs).bind fun p => match p.1 with
  | .dat (.bool b) => some (b, p.2)
  | _ => none
theorem mTB_some {f : ME} {ρ : Rho} {cs cs' : Cs} {b : Bool} (h : mTB f ρ cs = some (b, cs')) : f ρ cs = some (db b, cs') := by
  unfold mTB at h
  obtain ⟨⟨x, cs1⟩, h1, h⟩ := Option.bind_eq_some_iff.mp h
  cases x with
  | dat d =>
    cases d with
    | bool c => cases h; exact h1
    | _ => cases h
  | _ => cases h
theorem tTest_of {K : PySem.W.Frag} {f : ME} {t : TE} (h : ∀ σ H Q, tX K f σ H Q → t σ H Q) : ∀ σ H Q, tXT K (mTB f) σ H Q → tTest t σ H Q := fun σ H Q ⟨ρ, O, cs, b, cs', e, en, w, p⟩ =>
  h σ H _ ⟨ρ, O, cs, db b, cs', mTB_some e, en, w, fun v H' c' w' rv => by
    cases (show Rp K (hd O H') v (.bool b) from rv)
    exact ⟨b, rfl, p H' c' w'⟩⟩
theorem xt_cmp {op : CmpOp} {r : R2} {g : D → D → Option Rv} {a b : Expr} {fa fb : ME} {pos : Pos} (ho : OpR X (compareOp op) r) (hs : OpS X.K r g) (ha : XE X fa a) (hb : XE X fb b) (hm : behindInMarks op b = false := by first | exact nobehind _ (by decide) (by decide) | rfl) :
    XT X (mTB (mB g fa fb)) (.Compare a [op] [b] pos) := pt_weak (pt_cmpR ho ha hb hm) (tTest_of fun σ H Q h => tOp_of hs h)
theorem xt_lt {a b : Expr} {fa fb : ME} {pos : Pos} (rm : Rm X) (ha : XE X fa a) (hb : XE X fb b) : XT X (mTB (mB dLt fa fb)) (.Compare a [.Lt] [b] pos) := xt_cmp (OpR.or op_lt (op_ltD rm)) cmpS ha hb
theorem xt_gt {a b : Expr} {fa fb : ME} {pos : Pos} (rm : Rm X) (ha : XE X fa a) (hb : XE X fb b) : XT X (mTB (mB dGt fa fb)) (.Compare a [.Gt] [b] pos) := xt_cmp (OpR.or op_gt (op_gtD rm)) cmpS ha hb
theorem xt_le {a b : Expr} {fa fb : ME} {pos : Pos} (rm : Rm X) (ha : XE X fa a) (hb : XE X fb b) : XT X (mTB (mB dLe fa fb)) (.Compare a [.LtE] [b] pos) := xt_cmp (OpR.or op_le (op_leD rm)) cmpS ha hb
theorem xt_ge {a b : Expr} {fa fb : ME} {pos : Pos} (rm : Rm X) (ha : XE X fa a) (hb : XE X fb b) : XT X (mTB (mB dGe fa fb)) (.Compare a [.GtE] [b] pos) := xt_cmp (OpR.or op_ge (op_geD rm)) cmpS ha hb
theorem xt_eq {a b : Expr} {fa fb : ME} {pos : Pos} (rm : Rm X) (ha : XE X fa a) (hb : XE X fb b) : XT X (mTB (mB dEq fa fb)) (.Compare a [.Eq] [b] pos) := xt_cmp (op_eqD' rm) eqS ha hb
theorem xt_ne {a b : Expr} {fa fb : ME} {pos : Pos} (rm : Rm X) (ha : XE X fa a) (hb : XE X fb b) : XT X (mTB (mB dNe fa fb)) (.Compare a [.NotEq] [b] pos) := xt_cmp (op_neD' rm) neS ha hb
theorem xt_in {a b : Expr} {fa fb : ME} {pos : Pos} (rm : Rm X) (ha : XE X fa a) (hb : XE X fb b) (hm : behindInMarks .In b = false := by rfl) : XT X (mTB (mB dIn fa fb)) (.Compare a [.In] [b] pos) := xt_cmp (op_inD rm) dS ha hb hm
theorem xt_notin {a b : Expr} {fa fb : ME} {pos : Pos} (rm : Rm X) (ha : XE X fa a) (hb : XE X fb b) (hm : behindInMarks .NotIn b = false := by rfl) : XT X (mTB (mB dNotIn fa fb)) (.Compare a [.NotIn] [b] pos) := xt_cmp (op_ninD rm) dS ha hb hm
theorem xt_is {a b : Expr} {fa fb : ME} {pos : Pos} (ha : XE X fa a) (hb : XE X fb b) : XT X (mTB (mB (dIs id) fa fb)) (.Compare a [.Is] [b] pos) := xt_cmp op_isD isS ha hb
theorem xt_isnot {a b : Expr} {fa fb : ME} {pos : Pos} (ha : XE X fa a) (hb : XE X fb b) : XT X (mTB (mB (dIs not) fa fb)) (.Compare a [.IsNot] [b] pos) := xt_cmp op_isnD isS ha hb
def mTNot (f : MT) : MT := fun ρ cs => (f ρ cs).map fun p => (!p.1, p.2)
theorem xt_not {a : Expr} {f : MT} {pos : Pos} (ha : XT X f a) : XT X (mTNot f) (.UnaryOp .Not a pos) :=
  pt_weak (pt_not ha) fun σ H Q ⟨ρ, O, cs, b, cs', e, en, w, p⟩ => by
    obtain ⟨⟨c, cs1⟩, h1, h⟩ := Option.map_eq_some_iff.mp e
    cases h
    exact ⟨ρ, O, cs, c, cs1, h1, en, w, p⟩
def XW (X : Cx) (f : MT) (e : Expr) : Prop := PW X e (tXT X.K f)
theorem pw_weak {e : Expr} {t t' : TT} (h : PW X e t) (w : ∀ σ H Q, t' σ H Q → t σ H Q) : PW X e t' := ⟨fun wh pins s σ H Q I q => h.run wh pins s σ H Q I (w _ _ _ q)⟩
def mTAnd (f g : MT) : MT := fun ρ cs => (f ρ cs).bind fun p => if p.1 = true then g ρ p.2 else some (false, p.2)
def mTOr (f g : MT) : MT := fun ρ cs => (f ρ cs).bind fun p => if p.1 = true then some (true, p.2) else g ρ p.2
theorem xw_and1 {a : Expr} {f : MT} {pos : Pos} (ha : XT X f a) : XW X f (.BoolOp .And [a] pos) := pw_and1 ha
theorem xw_or1 {a : Expr} {f : MT} {pos : Pos} (ha : XT X f a) : XW X f (.BoolOp .Or [a] pos) := pw_or1 ha
theorem xw_and {a b : Expr} {rest : List Expr} {f g : MT} {pos : Pos} (ha : XT X f a) (hb : XW X g (.BoolOp .And (b :: rest) pos)) : XW X (mTAnd f g) (.BoolOp .And (a :: b :: rest) pos) :=
  pw_weak (pw_and ha hb) fun σ H Q ⟨ρ, O, cs, b, cs', e, en, w, p⟩ => by
    obtain ⟨⟨c, cs1⟩, h1, h⟩ := Option.bind_eq_some_iff.mp e
    refine ⟨ρ, O, cs, c, cs1, h1, en, w, fun H1 c1 w1 => ?_⟩
    cases c with
    | true => exact ⟨ρ, O, cs1, b, cs', h, en.ch c1, w1, p.step c1⟩
    | false => cases h; exact p H1 c1 w1
theorem xw_or {a b : Expr} {rest : List Expr} {f g : MT} {pos : Pos} (ha : XT X f a) (hb : XW X g (.BoolOp .Or (b :: rest) pos)) : XW X (mTOr f g) (.BoolOp .Or (a :: b :: rest) pos) :=
  pw_weak (pw_or ha hb) fun σ H Q ⟨ρ, O, cs, b, cs', e, en, w, p⟩ => by
    obtain ⟨⟨c, cs1⟩, h1, h⟩ := Option.bind_eq_some_iff.mp e
    refine ⟨ρ, O, cs, c, cs1, h1, en, w, fun H1 c1 w1 => ?_⟩
    cases c with
    | false => exact ⟨ρ, O, cs1, b, cs', h, en.ch c1, w1, p.step c1⟩
    | true => cases h; exact p H1 c1 w1
theorem xt_w {a : Expr} {f : MT} (h : XW X f a) : XT X f a := PW.pt h
def mIf (c : MT) (fa fb : ME) : ME := fun ρ cs => (c ρ cs).bind fun p => if p.1 = true then fa ρ p.2 else fb ρ p.2
theorem xe_if {c a b : Expr} {f : MT} {fa fb : ME} {pos : Pos} (hc : XT X f c) (ha : XE X fa a) (hb : XE X fb b) : XE X (mIf f fa fb) (.IfExp c a b pos) :=
  pe_weak (pe_ifExp hc ha hb) fun σ H Q ⟨ρ, O, cs, z, cs', e, en, w, p⟩ => by
    obtain ⟨⟨k, cs1⟩, h1, h⟩ := Option.bind_eq_some_iff.mp e
    refine ⟨ρ, O, cs, k, cs1, h1, en, w, fun H1 c1 w1 => ?_⟩
    cases k with
    | true => exact ⟨ρ, O, cs1, z, cs', h, en.ch c1, w1, p.step c1 w1⟩
    | false => exact ⟨ρ, O, cs1, z, cs', h, en.ch c1, w1, p.step c1 w1⟩
/-! a chain of two comparisons: of ints alone -/
def intOf : Rv → Option Int
  | .dat (.int i) => some i
  | _ => none
theorem intOf_some {r : Rv} {i : Int} (h : intOf r = some i) : r = di i := by
  cases r with
  | dat d =>
    cases d with
    | int j => cases h; rfl
    | _ => cases h
  | _ => cases h
def mChain (g g' : Int → Int → Bool) (fa fb fc : ME) : ME := fun ρ cs => (fa ρ cs).bind fun p => (fb ρ p.2).bind fun q => (intOf p.1).bind fun i => (intOf q.1).bind fun j =>
  if g i j = true then (fc ρ q.2).bind fun r => (intOf r.1).bind fun k => some (db (g' j k), r.2) else some (db false, q.2)
theorem tChain_of {K : PySem.W.Frag} {g g' : Int → Int → Bool} {fa fb fc : ME} {σ : L2.St} {H : Hp} {Q : VK} (h : tX K (mChain g g' fa fb fc) σ H Q) :
    tChain (rI0 fun i j => .bl (g i j)) (rI0 fun i j => .bl (g' i j)) (tX K fa) (tX K fb) (tX K fc) σ H Q := by
  obtain ⟨ρ, O, cs, z, cs', e, en, w, p⟩ := h
  unfold mChain at e
  obtain ⟨⟨x, cs1⟩, h1, e1⟩ := Option.bind_eq_some_iff.mp e
  clear e
  obtain ⟨⟨y, cs2⟩, h2, e2⟩ := Option.bind_eq_some_iff.mp e1
  clear e1
  obtain ⟨i, hi, e3⟩ := Option.bind_eq_some_iff.mp e2
  clear e2
  obtain ⟨j, hj, e4⟩ := Option.bind_eq_some_iff.mp e3
  clear e3
  obtain rfl : x = di i := intOf_some hi
  obtain rfl : y = di j := intOf_some hj
  refine ⟨ρ, O, cs, _, cs1, h1, en, w, fun v1 H1 c1 w1 r1 => ?_⟩
  refine ⟨ρ, O, cs1, _, cs2, h2, en.ch c1, w1, fun v2 H2 c2 w2 r2 => ?_⟩
  cases (show Rp K (hd O H1) v1 (.int i) from r1)
  cases (show Rp K (hd O H2) v2 (.int j) from r2)
  refine ⟨i, j, rfl, rfl, g i j, rfl, ?_⟩
  by_cases hg : g i j = true
  · rw [if_pos hg] at e4 ⊢
    obtain ⟨⟨r, cs3⟩, h3, e5⟩ := Option.bind_eq_some_iff.mp e4
    clear e4
    obtain ⟨k, hk, e6⟩ := Option.bind_eq_some_iff.mp e5
    clear e5
    obtain rfl : r = di k := intOf_some hk
    cases e6
    refine ⟨ρ, O, cs2, _, cs3, h3, en.ch (c1.trans c2), w2, fun v3 H3 c3 w3 r3 => ?_⟩
    cases (show Rp K (hd O H3) v3 (.int k) from r3)
    exact ⟨j, k, rfl, rfl, post_bool w3 (p.step ((c1.trans c2).trans c3) w3)⟩
  · rw [if_neg hg] at e4 ⊢
    cases e4
    exact post_bool w2 (p.step (c1.trans c2) w2)
theorem xe_chain {op op' : CmpOp} {g g' : Int → Int → Bool} {a b c : Expr} {fa fb fc : ME} {pos : Pos} (ho : OpR X (compareOp op) (rI0 fun i j => .bl (g i j))) (ho' : OpR X (compareOp op') (rI0 fun i j => .bl (g' i j))) (ha : XE X fa a) (hb : XE X fb b) (hc : XE X fc c)
    (hm : lastMarks [op, op'] [b, c] = false := by with_unfolding_all rfl) : XE X (mChain g g' fa fb fc) (.Compare a [op, op'] [b, c] pos) := pe_weak (pe_chain ho ho' ha hb hc hm) fun σ H Q h => tChain_of h
theorem xt_chain {op op' : CmpOp} {g g' : Int → Int → Bool} {a b c : Expr} {fa fb fc : ME} {pos : Pos} (ho : OpR X (compareOp op) (rI0 fun i j => .bl (g i j))) (ho' : OpR X (compareOp op') (rI0 fun i j => .bl (g' i j))) (ha : XE X fa a) (hb : XE X fb b) (hc : XE X fc c)
    (hm : lastMarks [op, op'] [b, c] = false := by with_unfolding_all rfl) : XT X (mTB (mChain g g' fa fb fc)) (.Compare a [op, op'] [b, c] pos) := pt_weak (pt_chain ho ho' ha hb hc hm) (tTest_of fun σ H Q h => tChain_of h)

/-! * -/
def rMlD : R2 := fun x y H Q => rI CMl (fun i j => .int (i * j)) x y H Q ∨ rMlS x y H Q
theorem mul_len (z : Str) (k : Int) (h : 0 ≤ k) : (Txt.mul z k).length ≤ z.length * k.toNat := by
  unfold Txt.mul
  split
  · exact Nat.zero_le _
  · split
    · rename_i h1 h2
      rcases (by simpa using h2 : k = 1 ∨ z.length = 0) with e | e
      · subst e; simp
      · rw [e]; simp
    · rename_i h1 h2
      generalize k.toNat = m
      have : ∀ (m : Nat) (acc : Array Nat), ((List.replicate m z.cps).foldl (· ++ ·) acc).size = acc.size + z.cps.size * m := by
        intro m
        induction m with
        | zero => intro acc; simp
        | succ m ih => intro acc; rw [List.replicate_succ, List.foldl_cons, ih, Array.size_append, Nat.mul_succ]; omega
      show ((List.replicate m z.cps).foldl (· ++ ·) #[]).size ≤ z.cps.size * m
      rw [this]; simp
/-- list * int -/
theorem op_repR : OpR X (binaryOp .Mult) (fun x y H Q => ∃ l k xs, x = .ref l ∧ y = .int k ∧ H l = some (.lst xs) ∧ -(2 ^ 63) ≤ k ∧ k < 2 ^ 63 ∧ xs.length * k.toNat ≤ sizeLine ∧
  ∀ p, H p = none → Q (.ref p) (upd H p (.lst (List.replicate k.toNat xs).flatten))) := op_rep
end
end DL
namespace DL
open PySem PySem.Spec PyProof.Rows L2
section
variable {X : Cx}
/-! * -/
def rRpL (K : PySem.W.Frag) : R2 := fun x y H Q => ∃ l k xs, x = .ref l ∧ y = .int k ∧ LstAt K H l xs ∧ 0 ≤ k ∧ k < 2 ^ 31 ∧ xs.length * k.toNat ≤ sizeLine ∧ ∀ p, H p = none → Q (.ref p) (upd H p (.lst (List.replicate k.toNat xs).flatten))
theorem rep_fold (its : List Value) (m : Nat) : (List.replicate (if its.toArray.isEmpty = true then 0 else m) its.toArray).foldl (fun a b => a ++ b) #[] = (List.replicate m its).flatten.toArray := by
  have f0 : ∀ k : Nat, (List.replicate k its.toArray).foldl (fun a b => a ++ b) #[] = (List.replicate k its).flatten.toArray := fun k => by
    have := foldl_rep its k []
    simpa using this
  cases its with
  | nil => rw [f0]; simp
  | cons a r =>
    rw [if_neg (by simp)]
    exact f0 m
theorem op_rpL : OpR X (binaryOp .Mult) (rRpL X.K) := by
  intro pins s σ H x y v u Q I rx ry h
  obtain ⟨l, k, xs, rfl, rfl, hr, k0, k1, hz, q⟩ := h
  obtain ⟨hw, its, n, r, e⟩ := lst_rd I hr
  have hv : v = Value.ref l := rx
  subst hv
  obtain ⟨t, ht⟩ := (show ∃ t, u = Value.int k t from ry)
  subst ht
  have hlen := r.length
  have c1 : its.toArray.size * k.toNat ≤ sizeLine := by rw [List.size_toArray, ← hlen]; exact hz
  have c2 : ¬ its.toArray.size * k.toNat > (2 ^ 63 - 1) / 8 := by
    have : (sizeLine : Nat) ≤ (2 ^ 63 - 1) / 8 := by rw [sizeLine_eq]; decide
    omega
  have c3 : ¬ (!Builtin.List.listFitsIndex k) = true := by
    rw [fitsIndex_both (by omega) (by omega)]
    simp
  have c4 : ¬ Builtin.List.listTooLong (its.toArray.size * k.toNat) = true := by
    rw [notLongL c1]
    simp
  have st : s.TypeIs (.ref l) "list" := ⟨_, e, rfl⟩
  refine wpAny_binaryOp_repeat_ref (T := "list") (U := "int") (by decide) st (fun s' => typeIs_int s' k t) noFill_list_mul F.fills_int_mul F.slot_int_rmul repeat_list F.slot_int_index.lookup ?_
  refine call_meets F.slot_int_rmul (typeIs_int s k t) F.entry_int_rmul (F.args_int_rmul_2 _ _) (int___rmul___int_list k t l its.toArray n) ⟨e, rfl, st, ?_⟩
  refine call_meets F.slot_list_mul st F.entry_list_mul (F.args_list_mul_2 _ _) (AutoListH.list___mul___list_int_3 l its.toArray n k t c3 c2 c4) ⟨e, ?_⟩
  rw [rep_fold]
  refine ⟨.ref _, _, I.lnew (t' := s.toks) (r.rep k.toNat) ?_, rfl, q _ I.fresh⟩
  rw [PyProof.Rows.lm_len_rep_flat, Nat.mul_comm]
  exact hz
theorem RpAll.rep {K : PySem.W.Frag} {H : Hp} {vs : List V} {ds : List D} (h : RpAll K H vs ds) : ∀ k : Nat, RpAll K H (List.replicate k vs).flatten (List.replicate k ds).flatten
  | 0 => .nil
  | k + 1 => by
    rw [List.replicate_succ, List.replicate_succ, List.flatten_cons, List.flatten_cons]
    exact h.append (RpAll.rep h k)
def dMul : D → D → Option Rv
  | .int i, .int j => if CMl i j then some (di (i * j)) else none
  | .str z, .int k => if 0 ≤ k ∧ k < 2 ^ 31 ∧ z.length * k.toNat ≤ 16777216 then some (.dat (.str (Txt.mul z k))) else none
  | .list ds, .int k => if 0 ≤ k ∧ k < 2 ^ 31 ∧ ds.length * k.toNat ≤ sizeLine then some (.fr (List.replicate k.toNat ds).flatten) else none
  | _, _ => none
def rMulD (K : PySem.W.Frag) : R2 := fun x y H Q => rI CMl (fun i j => .int (i * j)) x y H Q ∨ rMlS x y H Q ∨ rRpL K x y H Q
theorem op_mulD : OpR X (binaryOp .Mult) (rMulD X.K) := OpR.or op_ml (OpR.or op_mlS op_rpL)
theorem mulS {K : PySem.W.Frag} : OpS K (rMulD K) dMul := by
  intro O cs H x y d e z Q w sx sy g p
  cases d with
  | int i =>
    cases e with
    | int j =>
      obtain ⟨hz, rfl⟩ := ite_some g
      exact .inl ⟨i, j, sx.int, sy.int, hz, post_int w p⟩
    | _ => cases g
  | str i =>
    cases e with
    | int k =>
      obtain ⟨rfl, h1⟩ := sx.str
      obtain ⟨hz, rfl⟩ := ite_some g
      refine .inr (.inl ⟨i, k, rfl, sy.int, hz.1, hz.2.1, hz.2.2, post_str w ?_ p⟩)
      exact Nat.le_trans (mul_len i k hz.1) (by rw [sizeLine_eq]; exact hz.2.2)
    | _ => cases g
  | list ds =>
    cases e with
    | int k =>
      obtain ⟨a, vs, rfl, q1, r1⟩ := sx.list
      obtain ⟨hz, rfl⟩ := ite_some g
      exact .inr (.inr ⟨a, k, vs, rfl, sy.int, q1, hz.1, hz.2.1, by rw [r1.length]; exact hz.2.2, post_list w (r1.rep _) p⟩)
    | _ => cases g
  | _ => cases g
theorem xe_mul {a b : Expr} {fa fb : ME} {pos : Pos} (ha : XE X fa a) (hb : XE X fb b) : XE X (mB dMul fa fb) (.BinOp a .Mult b pos) := xe_bin op_mulD mulS ha hb

/-! len -/
def dLen : List D → Option Rv
  | [.list ds] => some (di ds.length)
  | [.tuple ds] => some (di ds.length)
  | [.str x] => some (di x.length)
  | _ => none
theorem Paired.one {α β : Type} {R : α → β → Prop} {xs : List α} {y : β} (h : Paired R xs [y]) : ∃ x, xs = [x] ∧ R x y := by
  cases h with
  | cons a t => cases t; exact ⟨_, rfl, a⟩
theorem Paired.two {α β : Type} {R : α → β → Prop} {xs : List α} {y z : β} (h : Paired R xs [y, z]) : ∃ x x', xs = [x, x'] ∧ R x y ∧ R x' z := by
  cases h with
  | cons a t =>
    cases t with
    | cons b t => cases t; exact ⟨_, _, rfl, a, b⟩
theorem lenS {K : PySem.W.Frag} : CaS K (fun xs H Q => ∃ x n, xs = [x] ∧ LenV K x H n ∧ Q (.int n) H) dLen := by
  intro O cs H vs ds z Q w hp g p
  cases ds with
  | nil => cases g
  | cons d r =>
    cases r with
    | cons _ _ => cases d <;> cases g
    | nil =>
      obtain ⟨x, rfl, sx⟩ := Paired.one hp
      cases d with
      | list ds =>
        cases g
        obtain ⟨a, vs, rfl, q1, r1⟩ := sx.list
        exact ⟨_, _, rfl, .inl ⟨vs, q1.sq, rfl⟩, by rw [r1.length]; exact post_int w p⟩
      | tuple ds =>
        cases g
        obtain ⟨a, vs, rfl, q1, r1⟩ := sx.tuple
        exact ⟨_, _, rfl, .inr ⟨vs, q1, rfl⟩, by rw [r1.length]; exact post_int w p⟩
      | str y =>
        cases g
        obtain ⟨rfl, hz⟩ := sx.str
        exact ⟨_, _, rfl, ⟨hz, rfl⟩, post_int w p⟩
      | _ => cases g
theorem xe_len {e : Expr} {fa : MA} {p pos : Pos} (hg : Gl X "len") (hm : X.mg "len" = none) (ha : XA X fa [e]) (he : starEach [e] X.env = (false, eval e X.env) :: starEach [] X.env := by rfl) : XE X (mCall dLen fa) (.Call (.Name "len" p) [e] [] pos) :=
  xe_callB call_len lenS hg hm boot_len ha (he := he)

/-! items -/
def dIx (d e : D) : Option Rv := match e with
  | .int i => match d with
    | .list ds => (atI ds i).map .dat
    | .tuple ds => (atI ds i).map .dat
    | .str x => (atI x.cps.toList i).map fun c => .dat (.str ⟨#[c]⟩)
    | _ => none
  | _ => none
theorem atI_rp {K : PySem.W.Frag} {H : Hp} {vs : List V} {ds : List D} (r : RpAll K H vs ds) {i : Int} {d : D} (h : atI ds i = some d) : ∃ v, atI vs i = some v ∧ Rp K H v d := by
  unfold atI at h ⊢
  obtain ⟨j, h1, h2⟩ := Option.bind_eq_some_iff.mp h
  obtain ⟨v, h3, h4⟩ := r.get h2
  exact ⟨v, by rw [r.length, h1]; exact h3, h4⟩
theorem one_sign (c : Nat) : (⟨#[c]⟩ : Str).length ≤ sizeLine := by
  show 1 ≤ sizeLine
  rw [sizeLine_eq]; decide
theorem ixS {K : PySem.W.Frag} : OpS K (rIx K) dIx := by
  intro O cs H x y d e z Q w sx sy g p
  cases e with
  | int i =>
    cases d with
    | list ds =>
      obtain ⟨d, hd, rfl⟩ := Option.map_eq_some_iff.mp g
      obtain ⟨a, vs, rfl, q1, r1⟩ := sx.list
      obtain ⟨v, h1, h2⟩ := atI_rp r1 hd
      exact .inl ⟨a, vs, i, v, rfl, sy.int, q1.sq, h1, post_val w h2 p⟩
    | tuple ds =>
      obtain ⟨d, hd, rfl⟩ := Option.map_eq_some_iff.mp g
      obtain ⟨a, vs, rfl, q1, r1⟩ := sx.tuple
      obtain ⟨v, h1, h2⟩ := atI_rp r1 hd
      exact .inr (.inl ⟨a, vs, i, v, rfl, sy.int, q1, h1, post_val w h2 p⟩)
    | str t =>
      obtain ⟨c, hc, rfl⟩ := Option.map_eq_some_iff.mp g
      obtain ⟨rfl, hz⟩ := sx.str
      exact .inr (.inr ⟨t, i, c, rfl, sy.int, hz, hc, post_str w (one_sign c) p⟩)
    | _ => cases g
  | _ => cases d <;> cases g
theorem xe_item {a b : Expr} {fa fb : ME} {pos : Pos} (ha : XE X fa a) (hb : XE X fb b) (hp : PlainIx b := by exact fun _ _ => rfl) : XE X (mB dIx fa fb) (.Subscript a b pos) := xe_ix ix_seq ixS ha hb hp

/-! slices -/
abbrev MO := Rho → Cs → Option (Option Int × Cs)
def tXO (K : PySem.W.Frag) (f : MO) : TO := fun σ H Q => ∃ ρ O cs o cs', f ρ cs = some (o, cs') ∧ EnvOk K O H ρ σ ∧ Wd K O cs H ∧ Pst K O H cs' (Q o)
def XO (X : Cx) (f : MO) (e : Option Expr) : Prop := PO X e (tXO X.K f)
def oNone : MO := fun _ cs => some (none, cs)
def oSome (f : ME) : MO := fun ρ cs => (f ρ cs).bind fun p => (intOf p.1).map fun i => (some i, p.2)
theorem po_weak {e : Option Expr} {t t' : TO} (h : PO X e t) (w : ∀ σ H Q, t' σ H Q → t σ H Q) : PO X e t' := ⟨fun pins s σ H Q I q => h.run pins s σ H Q I (w _ _ _ q)⟩
theorem xo_none : XO X oNone none := po_weak po_none fun σ H Q ⟨ρ, O, cs, o, cs', e, en, w, p⟩ => by
  cases e
  exact p H .refl w
theorem xo_some {e : Expr} {f : ME} (h : XE X f e) : XO X (oSome f) (some e) := po_weak (po_some h) fun σ H Q ⟨ρ, O, cs, o, cs', e, en, w, p⟩ => by
  obtain ⟨⟨r, cs1⟩, h1, e⟩ := Option.bind_eq_some_iff.mp e
  obtain ⟨i, h2, e⟩ := Option.map_eq_some_iff.mp e
  cases e
  obtain rfl : r = di i := intOf_some h2
  refine ⟨ρ, O, cs, _, cs1, h1, en, w, fun v H' c' w' rv => ?_⟩
  cases (show Rp X.K (hd O H') v (.int i) from rv)
  exact ⟨i, rfl, p H' c' w'⟩
def cutD (ds : List D) (lo hi : Option Int) : List D := (ds.drop (HT.sIx ds.length 0 lo)).take (HT.sIx ds.length ds.length hi - HT.sIx ds.length 0 lo)
def dSl (d : D) (lo hi : Option Int) : Option Rv := match d with
  | .list ds => some (.fr (cutD ds lo hi))
  | .tuple ds => some (.dat (.tuple (cutD ds lo hi)))
  | .str x => some (.dat (.str (cutS x lo hi)))
  | _ => none
def rSlD (K : PySem.W.Frag) : V → Option Int → Option Int → Hp → VK → Prop := fun x lo hi H Q => rSlL K x lo hi H Q ∨ rSlA K x lo hi H Q ∨ rSlS x lo hi H Q
theorem sl_D : SlR X (rSlD X.K) := SlR.or sl_list (SlR.or sl_tupA sl_str)
theorem cut_rp {K : PySem.W.Frag} {H : Hp} {vs : List V} {ds : List D} (r : RpAll K H vs ds) (lo hi : Option Int) : RpAll K H (cutV vs lo hi) (cutD ds lo hi) := by
  unfold cutV cutD
  rw [r.length]
  exact (r.drop _).take _
def mSl (f : ME) (lo hi : MO) : ME := fun ρ cs => (f ρ cs).bind fun p => (lo ρ p.2).bind fun l => (hi ρ l.2).bind fun u => (rd (deg p.1) u.2).bind fun d => (dSl d l.1 u.1).map fun z => (z, u.2)
theorem xe_slice {e : Expr} {lo hi : Option Expr} {f : ME} {fl fh : MO} {p2 pos : Pos} (he : XE X f e) (hl : XO X fl lo) (hh : XO X fh hi) : XE X (mSl f fl fh) (.Subscript e (.Slice lo hi none p2) pos) :=
  pe_weak (pe_slice sl_D he hl hh) fun σ H Q ⟨ρ, O, cs, z, cs', e0, en, w, p⟩ => by
    obtain ⟨⟨x, cs1⟩, h1, e1⟩ := Option.bind_eq_some_iff.mp e0
    obtain ⟨⟨l, cs2⟩, h2, e2⟩ := Option.bind_eq_some_iff.mp e1
    obtain ⟨⟨u, cs3⟩, h3, e3⟩ := Option.bind_eq_some_iff.mp e2
    obtain ⟨d, h4, e4⟩ := Option.bind_eq_some_iff.mp e3
    obtain ⟨z', h5, e5⟩ := Option.map_eq_some_iff.mp e4
    clear e0 e1 e2 e3 e4
    cases e5
    refine ⟨ρ, O, cs, x, cs1, h1, en, w, fun v1 H1 c1 w1 r1 => ?_⟩
    refine ⟨ρ, O, cs1, l, cs2, h2, en.ch c1, w1, fun H2 c2 w2 => ?_⟩
    refine ⟨ρ, O, cs2, u, cs3, h3, en.ch (c1.trans c2), w2, fun H3 c3 w3 => ?_⟩
    have sx := ((r1.deg.ch c2).ch c3).sh w3 h4
    have p' := p.step ((c1.trans c2).trans c3) w3
    cases d with
    | list ds =>
      cases h5
      obtain ⟨a, vs, rfl, q1, r⟩ := sx.list
      exact .inl ⟨a, vs, rfl, q1.sq, post_list w3 (cut_rp r _ _) p'⟩
    | tuple ds =>
      cases h5
      have sx' := sx
      obtain ⟨a, vs, rfl, q1, r⟩ := sx.tuple
      refine .inr (.inl ⟨a, vs, rfl, q1, fun hw => ?_, fun _ => post_tup w3 (cut_rp r _ _) p'⟩)
      have : cutD ds l u = ds := by
        unfold cutD
        rw [← r.length, hw.1, hw.2]
        simp [r.length]
      rw [this] at p'
      rcases sx' with sx' | ⟨_, _, _, _, h, _⟩
      · exact post_val w3 sx' p'
      · cases h
    | str y =>
      cases h5
      obtain ⟨rfl, hz⟩ := sx.str
      exact .inr (.inr ⟨y, rfl, hz, post_str w3 (Nat.le_trans (cutS_length y _ _) hz) p'⟩)
    | _ => cases h5
/-- xs[::-1] -/
def dRev : D → Option Rv
  | .list ds => some (.fr ds.reverse)
  | _ => none
theorem xe_rev {e : Expr} {f : ME} {k : Nat} {p1 p2 p3 pos : Pos} (he : XE X f e) : XE X (mU dRev f) (.Subscript e (.Slice none none (some (.UnaryOp .USub (.Constant (.int 1) k p1) p2)) p3) pos) :=
  pe_weak (pe_revL he) fun σ H Q ⟨ρ, O, cs, z, cs', e0, en, w, p⟩ => by
    obtain ⟨x, d, h1, h2, h3⟩ := mU_some e0
    refine ⟨ρ, O, cs, x, cs', h1, en, w, fun v1 H1 c1 w1 r1 => ?_⟩
    cases d with
    | list ds =>
      cases h3
      obtain ⟨a, vs, rfl, q1, r⟩ := (r1.deg.sh w1 h2).list
      exact ⟨a, vs, rfl, q1.sq, post_list w1 r.reverse (p.step c1 w1)⟩
    | _ => cases h3
end
end DL
namespace DL
open PySem PySem.Spec PyProof.Rows L2

/-! ### statements -/
inductive Out where
  | nx (ρ : Rho) (cs : Cs)
  | rt (r : Rv) (cs : Cs)
  | bk (ρ : Rho) (cs : Cs)
  | ct (ρ : Rho) (cs : Cs)
/-- the first argument: how many cells there were at the def's entry -/
abbrev MS := Nat → Rho → Cs → Option Out
structure Ext (n0 : Nat) (O O' : List (Option Addr)) (H : Hp) : Prop where
  pre : ∀ i, i < n0 → O'[i]? = O[i]?
  sub : ∀ a, a ∈ live O' → a ∈ live O ∨ H a = none
theorem Ext.refl {n0 : Nat} {O : List (Option Addr)} {H : Hp} : Ext n0 O O H := ⟨fun _ _ => rfl, fun _ h => .inl h⟩
theorem Ext.trans {n0 : Nat} {O O1 O2 : List (Option Addr)} {H H1 : Hp} {K : PySem.W.Frag} {cs : Cs} (w : Wd K O cs H) {cs1 : Cs} (w1 : Wd K O1 cs1 H1) (a : Ext n0 O O1 H) (c : Ch O H H1) (b : Ext n0 O1 O2 H1) : Ext n0 O O2 H := by
  refine ⟨fun i hi => (b.pre i hi).trans (a.pre i hi), fun x hx => ?_⟩
  rcases b.sub x hx with h | h
  · exact a.sub x h
  · by_cases hl : x ∈ live O
    · exact .inl hl
    · refine .inr ?_
      cases q : H x with
      | none => rfl
      | some o =>
        have := c x o hl q
        rw [h] at this; cases this
theorem Ch.ext {n0 : Nat} {O O1 : List (Option Addr)} {H H1 H2 : Hp} (a : Ch O H H1) (e : Ext n0 O O1 H) (b : Ch O1 H1 H2) : Ch O H H2 := fun x o n h => by
  refine b x o (fun z => ?_) (a x o n h)
  rcases e.sub x z with q | q
  · exact n q
  · rw [h] at q; cases q
/-- the data's heap grows -/
def Sub (O : List (Option Addr)) (H : Hp) (O' : List (Option Addr)) (H' : Hp) : Prop := ∀ a o, hd O H a = some o → hd O' H' a = some o
theorem Sub.of {n0 : Nat} {O O' : List (Option Addr)} {H H' : Hp} (e : Ext n0 O O' H) (c : Ch O H H') : Sub O H O' H' := fun a o h => by
  obtain ⟨n, q⟩ := hd_some h
  refine hd_of (fun z => ?_) (c a o n q)
  rcases e.sub a z with r | r
  · exact n r
  · rw [q] at r; cases r
theorem Sub.trans {O O1 O2 : List (Option Addr)} {H H1 H2 : Hp} (a : Sub O H O1 H1) (b : Sub O1 H1 O2 H2) : Sub O H O2 H2 := fun x o h => b x o (a x o h)
/-- not known at H, and none of the first n0 cells -/
def Unk (n0 : Nat) (O : List (Option Addr)) (H : Hp) (a : Addr) : Prop := (a ∉ live O → H a = none) ∧ ∀ i, i < n0 → O[i]? ≠ some (some a)
theorem Unk.step {K : PySem.W.Frag} {n0 : Nat} {O O1 : List (Option Addr)} {H H1 : Hp} (e : Ext n0 O O1 H) (c : Ch O H H1) {a : Addr} (h : Unk n0 O1 H1 a) : Unk n0 O H a := by
  refine ⟨fun n => ?_, fun i hi z => h.2 i hi (by rw [e.pre i hi]; exact z)⟩
  cases q : H a with
  | none => rfl
  | some o =>
    have q1 := c a o n q
    by_cases l : a ∈ live O1
    · rcases e.sub a l with r | r
      · exact absurd r n
      · rw [q] at r; cases r
    · rw [h.1 l] at q1; cases q1
/-- what a return gives -/
def RtR (K : PySem.W.Frag) (n0 : Nat) (O : List (Option Addr)) (H : Hp) (O' : List (Option Addr)) (r : Rv) (v : V) (H' : Hp) : Prop := match r with
  | .ft d => FtA K O' (Unk n0 O H) d v H'
  | r => ArR K O' r v H'
theorem RtR.step {K : PySem.W.Frag} {n0 : Nat} {O O1 O' : List (Option Addr)} {H H1 H' : Hp} (e : Ext n0 O O1 H) (c : Ch O H H1) {r : Rv} {v : V} (h : RtR K n0 O1 H1 O' r v H') : RtR K n0 O H O' r v H' := by
  cases r with
  | ft d =>
    obtain ⟨h1, as, h2, h3, h4, h5⟩ := h
    exact ⟨h1, as, h2, h3, fun a ha => ⟨(h4 a ha).1.step (K := K) e c, (h4 a ha).2⟩, h5⟩
  | _ => exact h
def PostS (K : PySem.W.Frag) (n0 : Nat) (O : List (Option Addr)) (H : Hp) (out : Out) (D : Ends) : Prop :=
  match out with
  | .nx ρ' cs' => ∀ σ' O' H', Ext n0 O O' H → Ch O H H' → EnvOk K O' H' ρ' σ' → Wd K O' cs' H' → D.nx σ' H'
  | .rt r cs' => ∀ v O' H', Ext n0 O O' H → Ch O H H' → Wd K O' cs' H' → RtR K n0 O H O' r v H' → D.rt v H'
  | .bk ρ' cs' => ∀ σ' O' H', Ext n0 O O' H → Ch O H H' → EnvOk K O' H' ρ' σ' → Wd K O' cs' H' → D.bk σ' H'
  | .ct ρ' cs' => ∀ σ' O' H', Ext n0 O O' H → Ch O H H' → EnvOk K O' H' ρ' σ' → Wd K O' cs' H' → D.ct σ' H'
def tS (K : PySem.W.Frag) (g : MS) : TS := fun D σ H => ∃ n0 ρ O cs out, g n0 ρ cs = some out ∧ n0 ≤ O.length ∧ EnvOk K O H ρ σ ∧ Wd K O cs H ∧ PostS K n0 O H out D
def XS (X : Cx) (g : MS) (st : Stmt) : Prop := PS X st (tS X.K g)
def XSs (X : Cx) (g : MS) (st : List Stmt) : Prop := PSs X st (tS X.K g)
theorem pss_weak {X : Cx} {e : List Stmt} {t t' : TS} (h : PSs X e t) (w : ∀ D σ H, t' D σ H → t D σ H) : PSs X e t' := ⟨fun pins s σ H D I q => h.run pins s σ H D I (w _ _ _ q)⟩
/-- a post goes on from a later state -/
theorem PostS.step {K : PySem.W.Frag} {n0 : Nat} {O O1 : List (Option Addr)} {H H1 : Hp} {out : Out} {D : Ends} {cs cs1 : Cs} (h : PostS K n0 O H out D) (w : Wd K O cs H) (w1 : Wd K O1 cs1 H1) (e : Ext n0 O O1 H) (c : Ch O H H1) : PostS K n0 O1 H1 out D := by
  cases out with
  | nx ρ' cs' => exact fun σ' O' H' e' c' en' w' => h σ' O' H' (e.trans w w1 c e') (c.ext e c') en' w'
  | rt r cs' => exact fun v O' H' e' c' w' r' => h v O' H' (e.trans w w1 c e') (c.ext e c') w' (r'.step e c)
  | bk ρ' cs' => exact fun σ' O' H' e' c' en' w' => h σ' O' H' (e.trans w w1 c e') (c.ext e c') en' w'
  | ct ρ' cs' => exact fun σ' O' H' e' c' en' w' => h σ' O' H' (e.trans w w1 c e') (c.ext e c') en' w'
theorem PostS.ends {K : PySem.W.Frag} {n0 : Nat} {O : List (Option Addr)} {H : Hp} {out : Out} {D D' : Ends} (h : PostS K n0 O H out D) (a : D'.rt = D.rt) (b : D'.bk = D.bk) (c : D'.ct = D.ct) (hn : ∀ ρ cs, out ≠ .nx ρ cs) : PostS K n0 O H out D' := by
  cases out with
  | nx ρ' cs' => exact absurd rfl (hn _ _)
  | rt r cs' => show ∀ v O' H', _ → _ → _ → _ → D'.rt v H'; rw [a]; exact h
  | bk ρ' cs' => show ∀ v O' H', _ → _ → _ → _ → D'.bk v H'; rw [b]; exact h
  | ct ρ' cs' => show ∀ v O' H', _ → _ → _ → _ → D'.ct v H'; rw [c]; exact h

section
variable {X : Cx}
def sNil : MS := fun _ ρ cs => some (.nx ρ cs)
def sSeq (f g : MS) : MS := fun n0 ρ cs => (f n0 ρ cs).bind fun o => match o with
  | .nx ρ1 cs1 => g n0 ρ1 cs1
  | o => some o
theorem Wd.lenO {K : PySem.W.Frag} {O : List (Option Addr)} {cs : Cs} {H : Hp} (w : Wd K O cs H) : O.length = cs.length := w.len.symm
theorem Ext.len {n0 : Nat} {O O' : List (Option Addr)} {H : Hp} (e : Ext n0 O O' H) (h : n0 ≤ O.length) : n0 ≤ O'.length := by
  cases n0 with
  | zero => exact Nat.zero_le _
  | succ n =>
    have h1 := e.pre n (Nat.lt_succ_self n)
    have h2 : O[n]? = some O[n] := List.getElem?_eq_getElem h
    rw [h2] at h1
    exact (List.getElem?_eq_some_iff.mp h1).1
theorem xs_nil : XSs X sNil [] := pss_weak pss_nil fun D σ H ⟨n0, ρ, O, cs, out, e, hn, en, w, p⟩ => by
  cases e
  exact p σ O H .refl .refl en w
theorem tSeq_of {K : PySem.W.Frag} {f g : MS} {D : Ends} {σ : L2.St} {H : Hp} (h : tS K (sSeq f g) D σ H) : tSeq (tS K f) (tS K g) D σ H := by
  obtain ⟨n0, ρ, O, cs, out, e, hn, en, w, p⟩ := h
  obtain ⟨o, h1, h2⟩ := Option.bind_eq_some_iff.mp e
  refine ⟨n0, ρ, O, cs, o, h1, hn, en, w, ?_⟩
  cases o with
  | nx ρ1 cs1 =>
    intro σ1 O1 H1 e1 c1 en1 w1
    exact ⟨n0, ρ1, O1, cs1, out, h2, e1.len hn, en1, w1, p.step w w1 e1 c1⟩
  | rt r cs1 => cases h2; exact p
  | bk r cs1 => cases h2; exact p
  | ct r cs1 => cases h2; exact p
theorem xs_cons {st : Stmt} {rest : List Stmt} {f g : MS} (h1 : XS X f st) (h2 : XSs X g rest) : XSs X (sSeq f g) (st :: rest) := pss_weak (pss_cons h1 h2) fun D σ H h => tSeq_of h
theorem xs_one {st : Stmt} {f : MS} (h1 : XS X f st) : XSs X f [st] := pss_one h1
theorem xs_pass {pos : Pos} : XS X sNil (.Pass pos) := ps_weak ps_pass fun D σ H ⟨n0, ρ, O, cs, out, e, hn, en, w, p⟩ => by
  cases e
  exact p σ O H .refl .refl en w
def sBrk : MS := fun _ ρ cs => some (.bk ρ cs)
def sCnt : MS := fun _ ρ cs => some (.ct ρ cs)
theorem xs_break {pos : Pos} : XS X sBrk (.Break pos) := ps_weak ps_break fun D σ H ⟨n0, ρ, O, cs, out, e, hn, en, w, p⟩ => by
  cases e
  exact p σ O H .refl .refl en w
theorem xs_continue {pos : Pos} : XS X sCnt (.Continue pos) := ps_weak ps_continue fun D σ H ⟨n0, ρ, O, cs, out, e, hn, en, w, p⟩ => by
  cases e
  exact p σ O H .refl .refl en w
/-- never reached -/
def sNev : MS := fun _ _ _ => none
theorem xs_never {st : Stmt} : XS X sNev st := ps_weak ps_never fun D σ H ⟨n0, ρ, O, cs, out, e, _⟩ => by cases e
theorem xss_never {st : List Stmt} : XSs X sNev st := pss_weak pss_never fun D σ H ⟨n0, ρ, O, cs, out, e, _⟩ => by cases e
/-- an expression dropped -/
def sExpr (f : ME) : MS := fun _ ρ cs => (f ρ cs).map fun p => .nx ρ p.2
theorem xs_expr {e : Expr} {f : ME} {pos : Pos} (he : XE X f e) (hs : swapsWith e none pos.line X.env = pure false := by rfl) : XS X (sExpr f) (.Expr e pos) :=
  ps_weak (ps_expr he hs) fun D σ H ⟨n0, ρ, O, cs, out, e0, hn, en, w, p⟩ => by
    obtain ⟨⟨r, cs1⟩, h1, h2⟩ := Option.map_eq_some_iff.mp e0
    subst h2
    exact ⟨ρ, O, cs, r, cs1, h1, en, w, fun v H' c w' _ => p σ O H' .refl c (en.ch c) w'⟩
/-- a new owned cell -/
theorem ext_new {K : PySem.W.Frag} {n0 : Nat} {O : List (Option Addr)} {H : Hp} {p : Addr} (hn : n0 ≤ O.length) (hp : H p = none) : Ext n0 O (O ++ [some p]) H := by
  refine ⟨fun i hi => List.getElem?_append_left (by omega), fun a ha => ?_⟩
  obtain ⟨i, q⟩ := mem_live.mp ha
  by_cases hi : i < O.length
  · rw [List.getElem?_append_left hi] at q
    exact .inl (mem_live.mpr ⟨i, q⟩)
  · rw [List.getElem?_append_right (by omega)] at q
    have h0 : i - O.length = 0 := by
      have := (List.getElem?_eq_some_iff.mp q).1
      simp at this; omega
    rw [h0] at q
    simp at q
    subst q
    exact .inr hp
theorem EnvOk.ext {K : PySem.W.Frag} {n0 : Nat} {O : List (Option Addr)} {H H' : Hp} {ρ : Rho} {σ : L2.St} {p : Addr} (en : EnvOk K O H ρ σ) (hp : H p = none) (c : Ch O H H') : EnvOk K (O ++ [some p]) H' ρ σ := by
  have sb : Sub O H (O ++ [some p]) H' := Sub.of (n0 := 0) (ext_new (K := K) (Nat.zero_le _) hp) c
  refine ⟨en.len, fun i r h => ?_⟩
  obtain ⟨v, h1, h2⟩ := en.slot i r h
  refine ⟨v, h1, ?_⟩
  cases r with
  | dat d => exact Rp.mono sb h2
  | own k =>
    obtain ⟨a, e, q⟩ := h2
    exact ⟨a, e, by rw [List.getElem?_append_left (List.getElem?_eq_some_iff.mp q).1]; exact q⟩
  | fr c => exact h2
  | exn nm d => exact ExAt.mono sb h2
  | ft d => exact h2
  | gr d k n => exact h2.mono (fun i hi => List.getElem?_append_left hi) sb
/-- name = value: data -/
def sSet (i : Nat) (f : ME) : MS := fun _ ρ cs => (f ρ cs).bind fun p => match deg p.1 with
  | .dat d => some (.nx (ρ.set i (some (.dat d))) p.2)
  | _ => none
/-- name = a fresh list, to be changed in place -/
def sOwn (i : Nat) (f : ME) : MS := fun _ ρ cs => (f ρ cs).bind fun p => match p.1 with
  | .fr c => some (.nx (ρ.set i (some (.own p.2.length))) (p.2 ++ [some c]))
  | _ => none
theorem tSet_of {K : PySem.W.Frag} {i : Nat} {f : ME} {D : Ends} {σ : L2.St} {H : Hp} (h : tS K (sSet i f) D σ H) : tAsg (tX K f) (gName i) D σ H := by
  obtain ⟨n0, ρ, O, cs, out, e0, hn, en, w, p⟩ := h
  obtain ⟨⟨r, cs1⟩, h1, h2⟩ := Option.bind_eq_some_iff.mp e0
  refine ⟨ρ, O, cs, r, cs1, h1, en, w, fun v H' c w' rv => ?_⟩
  have rr := rv.deg
  dsimp only at h2
  split at h2
  · rename_i d hd
    cases h2
    rw [hd] at rr
    exact p _ O H' .refl c ((en.ch c).set i rr) w'
  · cases h2
theorem tOwn_of {K : PySem.W.Frag} {i : Nat} {f : ME} {D : Ends} {σ : L2.St} {H : Hp} (h : tS K (sOwn i f) D σ H) : tAsg (tX K f) (gName i) D σ H := by
  obtain ⟨n0, ρ, O, cs, out, e0, hn, en, w, p⟩ := h
  obtain ⟨⟨r, cs1⟩, h1, h2⟩ := Option.bind_eq_some_iff.mp e0
  refine ⟨ρ, O, cs, r, cs1, h1, en, w, fun v H' c w' rv => ?_⟩
  cases r with
  | fr l =>
    cases h2
    obtain ⟨q, rfl, hq, w2⟩ := rv
    refine p _ (O ++ [some q]) H' (ext_new (K := K) hn hq) c ((en.ext (n0 := 0) hq c).set i ⟨q, rfl, ?_⟩) w2
    show (O ++ [some q])[cs1.length]? = some (some q)
    rw [w'.len]; simp
  | _ => cases h2
theorem xs_set {i : Nat} {x : Str} {e : Expr} {f : ME} {pos pos' : Pos} (hN : X.N.Nodup) (hi : X.N[i]? = some x) (hx : Loc X.env.scope x) (he : XE X f e) (hs : swapsWith e (some (.Name x pos')) pos.line X.env = pure false := by rfl)
    (hf : X.fn x = true ∨ X.env.scope.names.lookup x = some .local := by first | exact .inl rfl | exact .inr rfl) : XS X (sSet i f) (.Assign [.Name x pos'] e pos) := ps_weak (ps_set hN hi hx he hs hf) fun D σ H h => tSet_of h
theorem xs_own {i : Nat} {x : Str} {e : Expr} {f : ME} {pos pos' : Pos} (hN : X.N.Nodup) (hi : X.N[i]? = some x) (hx : Loc X.env.scope x) (he : XE X f e) (hs : swapsWith e (some (.Name x pos')) pos.line X.env = pure false := by rfl)
    (hf : X.fn x = true ∨ X.env.scope.names.lookup x = some .local := by first | exact .inl rfl | exact .inr rfl) : XS X (sOwn i f) (.Assign [.Name x pos'] e pos) := ps_weak (ps_set hN hi hx he hs hf) fun D σ H h => tOwn_of h
/-- return -/
def sRet (f : ME) : MS := fun n0 ρ cs => (f ρ cs).bind fun p => match p.1 with
  | .dat d => some (.rt (.dat d) p.2)
  | .fr c => some (.rt (.own p.2.length) (p.2 ++ [some c]))
  | .own k => if n0 ≤ k then some (.rt (.own k) p.2) else none
  | .exn _ _ => none
  | .ft d => some (.rt (.ft d) p.2)
  | .gr _ _ _ => none
theorem xs_ret {e : Expr} {f : ME} {pos : Pos} (he : XE X f e) : XS X (sRet f) (.Return (some e) pos) :=
  ps_weak (ps_ret he) fun D σ H ⟨n0, ρ, O, cs, out, e0, hn, en, w, p⟩ => by
    obtain ⟨⟨r, cs1⟩, h1, h2⟩ := Option.bind_eq_some_iff.mp e0
    refine ⟨ρ, O, cs, r, cs1, h1, en, w, fun v H' c w' rv => ?_⟩
    cases r with
    | dat d => cases h2; exact p v O H' .refl c w' rv
    | exn nm d => cases h2
    | gr d k n => cases h2
    | ft d =>
      cases h2
      refine p v O H' .refl c w' ?_
      obtain ⟨h1, as, h2, h3, h4, h5⟩ := rv
      refine ⟨h1, as, h2, h3, fun a ha => ⟨⟨fun _ => (h4 a ha).1, fun i hi z => ?_⟩, (h4 a ha).2⟩, h5⟩
      exact (h4 a ha).2 (mem_live.mpr ⟨i, z⟩)
    | own k =>
      obtain ⟨_, h3⟩ := ite_some h2
      subst h3
      exact p v O H' .refl c w' rv
    | fr l =>
      cases h2
      obtain ⟨q, rfl, hq, w2⟩ := rv
      refine p _ (O ++ [some q]) H' (ext_new (K := X.K) hn hq) c w2 ⟨q, rfl, ?_⟩
      show (O ++ [some q])[cs1.length]? = some (some q)
      rw [w'.len]; simp
def sRetN : MS := fun _ _ cs => some (.rt (.dat .none) cs)
theorem xs_retN {pos : Pos} : XS X sRetN (.Return none pos) := ps_weak ps_retN fun D σ H ⟨n0, ρ, O, cs, out, e0, hn, en, w, p⟩ => by
  cases e0
  exact p .non O H .refl .refl w .non
/-- if -/
def sIf (c : MT) (f g : MS) : MS := fun n0 ρ cs => (c ρ cs).bind fun p => if p.1 = true then f n0 ρ p.2 else g n0 ρ p.2
theorem xs_if {c : Expr} {a b : List Stmt} {t : MT} {f g : MS} {pos : Pos} (hc : XT X t c) (ha : XSs X f a) (hb : XSs X g b) : XS X (sIf t f g) (.If c a b pos) :=
  ps_weak (ps_if hc ha hb) fun D σ H ⟨n0, ρ, O, cs, out, e0, hn, en, w, p⟩ => by
    obtain ⟨⟨k, cs1⟩, h1, h2⟩ := Option.bind_eq_some_iff.mp e0
    refine ⟨ρ, O, cs, k, cs1, h1, en, w, fun H1 c1 w1 => ?_⟩
    cases k with
    | true => exact ⟨n0, ρ, O, cs1, out, h2, hn, en.ch c1, w1, p.step w w1 .refl c1⟩
    | false => exact ⟨n0, ρ, O, cs1, out, h2, hn, en.ch c1, w1, p.step w w1 .refl c1⟩
/-- an owned cell is given up: data from now on -/
def sFrz (i : Nat) (f : MS) : MS := fun n0 ρ cs => match ρ[i]? with
  | some (some (.own k)) => if n0 ≤ k then (match cs[k]? with
    | some (some c) => f n0 ((ρ.map fun r => match r with
        | some (.own j) => if j = k then none else some (.own j)
        | some (.gr _ _ _) => none
        | r => r).set i (some (.dat (.list c)))) (cs.set k none)
    | _ => none) else none
  | _ => none
end
end DL
namespace DL
open PySem PySem.Spec PyProof.Rows L2
section
variable {X : Cx}
theorem live_set {O : List (Option Addr)} {k : Nat} {a : Addr} (h : a ∈ live (O.set k none)) : a ∈ live O := by
  obtain ⟨i, q⟩ := mem_live.mp h
  refine mem_live.mpr ⟨i, ?_⟩
  by_cases e : k = i
  · subst e
    by_cases hk : k < O.length
    · rw [List.getElem?_set_self hk] at q; cases q
    · rw [List.getElem?_eq_none (by simp; omega)] at q; cases q
  · rw [List.getElem?_set_ne e] at q
    exact q
theorem Wd.freeze {K : PySem.W.Frag} {O : List (Option Addr)} {cs : Cs} {H : Hp} (w : Wd K O cs H) {k : Nat} : Wd K (O.set k none) (cs.set k none) H := by
  have sb : ∀ a o, hd O H a = some o → hd (O.set k none) H a = some o := fun a o h => by
    obtain ⟨n, e⟩ := hd_some h
    exact hd_of (fun z => n (live_set z)) e
  have get : ∀ {i : Nat} {x : Addr}, (O.set k none)[i]? = some (some x) → O[i]? = some (some x) ∧ k ≠ i := fun {i x} q => by
    by_cases e : k = i
    · subst e
      by_cases hk : k < O.length
      · rw [List.getElem?_set_self hk] at q; cases q
      · rw [List.getElem?_eq_none (by simp; omega)] at q; cases q
    · rw [List.getElem?_set_ne e] at q
      exact ⟨q, e⟩
  refine ⟨by simp [w.len], fun i j a h1 h2 => w.inj i j a (get h1).1 (get h2).1, fun i a h => ?_, fun i h => ?_⟩
  · obtain ⟨h1, ne⟩ := get h
    obtain ⟨c, vs, h2, h3, h4⟩ := w.cell i a h1
    exact ⟨c, vs, by rw [List.getElem?_set_ne ne]; exact h2, h3, h4.mono sb⟩
  · by_cases e : k = i
    · subst e
      have hk : k < cs.length := by
        have := (List.getElem?_eq_some_iff.mp h).1
        rw [w.len]; simpa using this
      rw [List.getElem?_set_self hk]
    · rw [List.getElem?_set_ne e] at h ⊢
      exact w.ded i h
theorem xs_frz {st : Stmt} {i : Nat} {f : MS} (h : XS X f st) : XS X (sFrz i f) st := ps_weak h fun D σ H ⟨n0, ρ, O, cs, out, e0, hn, en, w, p⟩ => by
  unfold sFrz at e0
  split at e0
  · rename_i k hk
    split at e0
    · rename_i hnk
      split at e0
      · rename_i c hc
        obtain ⟨a, vs, h1, h2, h3⟩ := w.of hc
        have wf : Wd X.K (O.set k none) (cs.set k none) H := w.freeze
        have sb : ∀ b o, hd O H b = some o → hd (O.set k none) H b = some o := fun b o hb => by
          obtain ⟨n, e⟩ := hd_some hb
          exact hd_of (fun z => n (live_set z)) e
        have na : a ∉ live (O.set k none) := fun z => by
          obtain ⟨j, q⟩ := mem_live.mp z
          by_cases ej : k = j
          · subst ej
            rw [List.getElem?_set_self (List.getElem?_eq_some_iff.mp h1).1] at q; cases q
          · rw [List.getElem?_set_ne ej] at q
            exact ej (w.inj k j a h1 q)
        have rp : Rp X.K (hd (O.set k none) H) (.ref a) (.list c) := .lst (.inl (.inl (hd_of na h2))) (h3.mono sb)
        have ex : Ext n0 O (O.set k none) H := ⟨fun j hj => List.getElem?_set_ne (by omega), fun b hb => .inl (live_set hb)⟩
        refine ⟨n0, _, O.set k none, cs.set k none, out, e0, by simpa using hn, ⟨by simp [en.len], fun j r hj => ?_⟩, wf, p.step w wf ex .refl⟩
        by_cases e : i = j
        · subst e
          have hi : i < ρ.length := (List.getElem?_eq_some_iff.mp hk).1
          rw [List.getElem?_set_self (by simpa using hi)] at hj
          cases hj
          obtain ⟨v, q1, b, rfl, q2⟩ := en.slot i _ hk
          rw [h1] at q2; cases q2
          exact ⟨_, q1, rp⟩
        · rw [List.getElem?_set_ne e, List.getElem?_map] at hj
          cases q : ρ[j]? with
          | none => rw [q] at hj; cases hj
          | some r0 =>
            rw [q] at hj
            cases r0 with
            | none => cases hj
            | some r1 =>
              cases r1 with
              | dat d =>
                cases hj
                obtain ⟨v, q1, q2⟩ := en.slot j _ q
                exact ⟨v, q1, Rp.mono sb q2⟩
              | fr l =>
                obtain ⟨v, q1, q2⟩ := en.slot j _ q
                exact q2.elim
              | exn nm d =>
                cases hj
                obtain ⟨v, q1, q2⟩ := en.slot j _ q
                exact ⟨v, q1, ExAt.mono sb q2⟩
              | ft d =>
                obtain ⟨v, q1, q2⟩ := en.slot j _ q
                exact q2.elim
              | gr d k n => cases hj
              | own l =>
                obtain ⟨v, q1, b, q2, q3⟩ := en.slot j _ q
                have hj' : (if l = k then none else some (Rv.own l)) = some r := by
                  have := Option.some.inj hj
                  exact this
                split at hj'
                · cases hj'
                · rename_i ne
                  cases hj'
                  exact ⟨v, q1, b, q2, by rw [List.getElem?_set_ne (Ne.symm ne)]; exact q3⟩
      · cases e0
    · cases e0
  · cases e0

/-! targets -/
abbrev MG := D → Rho → Option Rho
def tG (K : PySem.W.Frag) (vs : List Nat) (g : MG) : TG := fun v σ H Q => ∃ ρ O cs d ρ', g d ρ = some ρ' ∧ Rp K (hd O H) v d ∧ EnvOk K O H ρ σ ∧ Wd K O cs H ∧ ∀ σ', EnvOk K O H ρ' σ' → wipe σ' vs = wipe σ vs → Q σ' H
def XG (X : Cx) (vs : List Nat) (g : MG) (e : Expr) : Prop := PG X e (tG X.K vs g)
theorem wipe_get (σ : L2.St) (j : Nat) : ∀ vs : List Nat, (wipe σ vs)[j]? = if j ∈ vs ∧ j < σ.length then some none else σ[j]?
  | [] => by simp [wipe]
  | v :: vs => by
    have ih := wipe_get σ j vs
    unfold wipe
    rw [List.getElem?_set, ih, wipe_length]
    by_cases h : v = j
    · subst h
      by_cases hj : v < σ.length <;> simp [hj]
    · have h' : j ≠ v := fun e => h e.symm
      rw [if_neg h]
      simp [h']
theorem wipe_set {σ : L2.St} {i : Nat} {x : Option V} {vs : List Nat} (h : i ∈ vs) : wipe (σ.set i x) vs = wipe σ vs := by
  apply List.ext_getElem?
  intro j
  rw [wipe_get, wipe_get, List.length_set]
  by_cases c : j ∈ vs ∧ j < σ.length
  · rw [if_pos c, if_pos c]
  · rw [if_neg c, if_neg c]
    by_cases e : i = j
    · subst e
      have hi : ¬ i < σ.length := fun z => c ⟨h, z⟩
      rw [List.getElem?_eq_none (by simp; omega), List.getElem?_eq_none (by omega)]
    · rw [List.getElem?_set_ne e]
def gNm (i : Nat) : MG := fun d ρ => some (ρ.set i (some (.dat d)))
theorem pg_weak {e : Expr} {t t' : TG} (h : PG X e t) (w : ∀ v σ H Q, t' v σ H Q → t v σ H Q) : PG X e t' := ⟨fun pins s σ H v u Q I r q => h.run pins s σ H v u Q I r (w _ _ _ _ q)⟩
theorem xg_name {i : Nat} {x : Str} {pos : Pos} {vs : List Nat} (hN : X.N.Nodup) (hi : X.N[i]? = some x) (hx : Loc X.env.scope x) (hm : i ∈ vs := by simp) (hf : X.fn x = true ∨ X.env.scope.names.lookup x = some .local := by first | exact .inl rfl | exact .inr rfl) : XG X vs (gNm i) (.Name x pos) :=
  pg_weak (pg_name hN hi hx hf) fun v σ H Q ⟨ρ, O, cs, d, ρ', e, r, en, w, p⟩ => by
    cases e
    exact p _ (en.set i (r := .dat d) r) (wipe_set hm)
abbrev MGs := List D → Rho → Option Rho
def tGs (K : PySem.W.Frag) (ws : List Nat) (g : MGs) : TGs := fun vs σ H Q => ∃ ρ O cs ds ρ', g ds ρ = some ρ' ∧ RpAll K (hd O H) vs ds ∧ EnvOk K O H ρ σ ∧ Wd K O cs H ∧ ∀ σ', EnvOk K O H ρ' σ' → wipe σ' ws = wipe σ ws → Q σ' H
def XGs (X : Cx) (ws : List Nat) (g : MGs) (es : List Expr) : Prop := PGs X es (tGs X.K ws g)
theorem pgs_weak {e : List Expr} {t t' : TGs} (h : PGs X e t) (w : ∀ v σ H Q, t' v σ H Q → t v σ H Q) : PGs X e t' := ⟨fun pins s σ H v u Q I r q => h.run pins s σ H v u Q I r (w _ _ _ _ q)⟩
def gsNil : MGs := fun ds ρ => match ds with
  | [] => some ρ
  | _ => none
def gsCons (g : MG) (h : MGs) : MGs := fun ds ρ => match ds with
  | d :: r => (g d ρ).bind fun ρ1 => h r ρ1
  | [] => none
theorem xgs_nil {ws : List Nat} : XGs X ws gsNil [] := pgs_weak pgs_nil fun vs σ H Q ⟨ρ, O, cs, ds, ρ', e, r, en, w, p⟩ => by
  cases ds with
  | nil =>
    cases e
    cases r
    exact ⟨rfl, p σ en rfl⟩
  | cons _ _ => cases e
theorem xgs_cons {e : Expr} {es : List Expr} {g : MG} {h : MGs} {ws : List Nat} (h1 : XG X ws g e) (h2 : XGs X ws h es) (hs : (assignEach (e :: es) X.env).map (·.2) = assign e X.env :: (assignEach es X.env).map (·.2) := by rfl) : XGs X ws (gsCons g h) (e :: es) :=
  pgs_weak (pgs_cons h1 h2 hs) fun vs σ H Q ⟨ρ, O, cs, ds, ρ', e0, r, en, w, p⟩ => by
    cases ds with
    | nil => cases e0
    | cons d ds =>
      cases r with
      | cons r1 r2 =>
        obtain ⟨ρ1, h3, h4⟩ := Option.bind_eq_some_iff.mp e0
        exact ⟨_, _, rfl, ρ, O, cs, d, ρ1, h3, r1, en, w, fun σ1 en1 q1 => ⟨ρ1, O, cs, ds, ρ', h4, r2, en1, w, fun σ2 en2 q2 => p σ2 en2 (q2.trans q1)⟩⟩
def gTp (n : Nat) (g : MGs) : MG := fun d ρ => match d with
  | .tuple ds => if ds.length = n then g ds ρ else none
  | _ => none
theorem xg_tup {es : List Expr} {k : Nat} {g : MGs} {n : Nat} {pos : Pos} {ws : List Nat} (hc : X.calm = true) (h : XGs X ws g es) (hn : (assignEach es X.env).length = n := by rfl) (hst : (assignEach es X.env).findIdx? (·.1) = none := by rfl) : XG X ws (gTp n g) (.Tuple es k pos) :=
  pg_weak (pg_tup hc h hn hst) fun v σ H Q ⟨ρ, O, cs, d, ρ', e, r, en, w, p⟩ => by
    cases d with
    | tuple ds =>
      have e' : (if ds.length = n then g ds ρ else none) = some ρ' := e
      by_cases hl : ds.length = n
      · rw [if_pos hl] at e'
        cases r with
        | tup q rr => exact ⟨_, _, rfl, sqT_mono hd_le q, by rw [rr.length]; exact hl, ρ, O, cs, ds, ρ', e', rr, en, w, p⟩
      · rw [if_neg hl] at e'; cases e'
    | _ => cases e
/-- target = value, any target of names -/
def sAsg (f : ME) (g : MG) : MS := fun _ ρ cs => (f ρ cs).bind fun p => match deg p.1 with
  | .dat d => (g d ρ).map fun ρ' => .nx ρ' p.2
  | _ => none
theorem xs_asg {tg e : Expr} {f : ME} {g : MG} {pos : Pos} {ws : List Nat} (he : XE X f e) (hg : XG X ws g tg) (hs : swapsWithSole [tg] e pos.line X.env = pure false := by rfl) (hw : swappedStores [tg] e X.env = pure none := by rfl)
    (h1 : (assignEach [tg] X.env).map (·.2) = [assign tg X.env] := by rfl) : XS X (sAsg f g) (.Assign [tg] e pos) :=
  ps_weak (ps_asg he hg hs hw h1) fun D σ H ⟨n0, ρ, O, cs, out, e0, hn, en, w, p⟩ => by
    obtain ⟨⟨r, cs1⟩, h1, h2⟩ := Option.bind_eq_some_iff.mp e0
    refine ⟨ρ, O, cs, r, cs1, h1, en, w, fun v H' c w' rv => ?_⟩
    have rr := rv.deg
    dsimp only at h2
    split at h2
    · rename_i d hd'
      obtain ⟨ρ', h3, h4⟩ := Option.map_eq_some_iff.mp h2
      subst h4
      rw [hd'] at rr
      exact ⟨ρ, O, cs1, d, ρ', h3, rr, en.ch c, w', fun σ' en' _ => p σ' O H' .refl c en' w'⟩
    · cases h2
/-- a, b = x, y -/
def sPar (i j : Nat) (fa : MA) : MS := fun _ ρ cs => (fa ρ cs).bind fun p => match p.1 with
  | [.dat d, .dat e] => some (.nx ((ρ.set i (some (.dat d))).set j (some (.dat e))) p.2)
  | _ => none
theorem xs_par {i j : Nat} {x y : Str} {a b : Expr} {fa : MA} {px py pt pos : Pos} {kt k2 pt2} (hc : X.calm = true) (hN : X.N.Nodup) (hi : X.N[i]? = some x) (hj : X.N[j]? = some y) (hij : i ≠ j)
    (hx : X.env.scope.names.lookup x = some .local) (hy : X.env.scope.names.lookup y = some .local) (ha : XA X fa [a, b])
    (hw : swappedStores [.Tuple [.Name x px, .Name y py] kt pt] (.Tuple [a, b] k2 pt2) X.env = pure (some [x, y]) := by rfl)
    (hs : swapsWithSole [.Tuple [.Name x px, .Name y py] kt pt] (.Tuple [a, b] k2 pt2) pos.line X.env = pure false := by rfl) :
    XS X (sPar i j fa) (.Assign [.Tuple [.Name x px, .Name y py] kt pt] (.Tuple [a, b] k2 pt2) pos) :=
  ps_weak (ps_par hc hN hi hj hij hx hy ha hw hs) fun D σ H ⟨n0, ρ, O, cs, out, e0, hn, en, w, p⟩ => by
    obtain ⟨⟨rs, cs1⟩, h1, h2⟩ := Option.bind_eq_some_iff.mp e0
    refine ⟨ρ, O, cs, rs, cs1, h1, en, w, fun vs H' c w' ra => ?_⟩
    dsimp only at h2
    split at h2
    · rename_i _ d e
      cases h2
      match vs, ra with
      | [v, u], ra => exact ⟨v, u, rfl, p _ O H' .refl c (((en.ch c).set i (r := .dat d) ra.1).set j (r := .dat e) ra.2.1) w'⟩
      | [], ra => exact ra.elim
      | [_], ra => exact ra.2.elim
      | _ :: _ :: _ :: _, ra => exact ra.2.2.elim
    · cases h2
/-! changes in place -/
/-- what is changed: a name's owned cell -/
def cellOf (r : Option (Option Rv)) : Option Nat := match r with
  | some (some (.own k)) => some k
  | _ => none
theorem cellOf_some {r : Option (Option Rv)} {k : Nat} (h : cellOf r = some k) : r = some (some (.own k)) := by
  match r, h with
  | some (some (.own _)), h => cases h; rfl
theorem Wd.write {K : PySem.W.Frag} {O : List (Option Addr)} {cs : Cs} {H : Hp} (w : Wd K O cs H) {k : Nat} {a : Addr} {vs : List V} {c : List D} (h : O[k]? = some (some a)) (r : RpAll K (hd O H) vs c) : Wd K O (cs.set k (some c)) (upd H a (.lst vs)) ∧ Ch O H (upd H a (.lst vs)) := by
  have la : a ∈ live O := mem_live.mpr ⟨k, h⟩
  have ch : Ch O H (upd H a (.lst vs)) := fun b o n e => by
    rw [upd_ne (fun z => n (by rw [z]; exact la))]; exact e
  have hk : k < cs.length := by rw [w.len]; exact (List.getElem?_eq_some_iff.mp h).1
  refine ⟨⟨by simp [w.len], w.inj, fun i b hb => ?_, fun i hi => ?_⟩, ch⟩
  · by_cases e : i = k
    · subst e
      rw [h] at hb; cases hb
      exact ⟨c, vs, by rw [List.getElem?_set_self hk], upd_same, r.mono ch.data⟩
    · obtain ⟨c', vs', h1, h2, h3⟩ := w.cell i b hb
      have nb : b ≠ a := fun z => e (w.inj i k b hb (by rw [z]; exact h))
      exact ⟨c', vs', by rw [List.getElem?_set_ne (Ne.symm e)]; exact h1, by rw [upd_ne nb]; exact h2, h3.mono ch.data⟩
  · by_cases e : i = k
    · subst e
      rw [h] at hi; cases hi
    · rw [List.getElem?_set_ne (Ne.symm e)]; exact w.ded i hi
/-- x[i] = e, x an owned cell -/
def sPut (x : Nat) (fi fe : ME) : MS := fun _ ρ cs => (fe ρ cs).bind fun p => (cellOf ρ[x]?).bind fun k => (fi ρ p.2).bind fun q => (intOf q.1).bind fun i => match deg p.1, q.2[k]? with
  | .dat d, some (some c) => (ixN c.length i).map fun j => .nx ρ (q.2.set k (some (c.set j d)))
  | _, _ => none
theorem xs_put {x : Nat} {nm : Str} {i e : Expr} {fi fe : ME} {p1 p2 pos : Pos} (hN : X.N[x]? = some nm) (hv : Vis X.env.scope nm) (hi : XE X fi i) (he : XE X fe e)
    (ha : ∀ v, assign (.Subscript (.Name nm p1) i p2) X.env v = (do
      let ov ← holding [v] (eval (.Name nm p1) X.env)
      let iv ← holding [v, ov] (eval i X.env)
      standAt p2
      holding [v, ov, iv] (setItem ov iv v)
      release [v, ov, iv] []) := by intro _; rfl)
    (hs : swapsWithSole [.Subscript (.Name nm p1) i p2] e pos.line X.env = pure false := by rfl) (hw : swappedStores [.Subscript (.Name nm p1) i p2] e X.env = pure none := by rfl)
    (h1 : (assignEach [.Subscript (.Name nm p1) i p2] X.env).map (·.2) = [assign (.Subscript (.Name nm p1) i p2) X.env] := by rfl)
    (hd : (nm == ("__debug__" : Str)) = false := by decide) (hcd : (nm == ("__classdict__" : Str)) = false := by decide) :
    XS X (sPut x fi fe) (.Assign [.Subscript (.Name nm p1) i p2] e pos) :=
  ps_weak (ps_asg he (pg_sub (pe_var hN hv hd hcd) hi set_list ha) hs hw h1) fun D σ H ⟨n0, ρ, O, cs, out, e0, hn, en, w, p⟩ => by
    obtain ⟨⟨r, cs1⟩, g1, e1⟩ := Option.bind_eq_some_iff.mp e0
    obtain ⟨k, g2, e2⟩ := Option.bind_eq_some_iff.mp e1
    obtain ⟨⟨y, cs2⟩, g3, e3⟩ := Option.bind_eq_some_iff.mp e2
    obtain ⟨m, g4, e4⟩ := Option.bind_eq_some_iff.mp e3
    clear e0 e1 e2 e3
    obtain rfl : y = di m := intOf_some g4
    refine ⟨ρ, O, cs, r, cs1, g1, en, w, fun v H1 c1 w1 rv => ?_⟩
    obtain ⟨u, q1, a, rfl, q2⟩ := en.slot x _ (cellOf_some g2)
    refine ⟨_, q1, ρ, O, cs1, _, cs2, g3, en.ch c1, w1, fun v2 H2 c2 w2 rv2 => ?_⟩
    have rr := rv.deg.ch c2
    dsimp only at e4
    split at e4
    · rename_i d c hd' hc'
      obtain ⟨j, g5, e5⟩ := Option.map_eq_some_iff.mp e4
      subst e5
      rw [hd'] at rr
      obtain ⟨c', vs, h5, h6, h7⟩ := w2.cell k a q2
      rw [hc'] at h5; cases h5
      cases (show Rp X.K (DL.hd O H2) v2 (.int m) from rv2)
      obtain ⟨w3, c3⟩ := w2.write q2 (h7.set rr j)
      exact ⟨a, vs, m, j, rfl, rfl, h6, by rw [h7.length]; exact g5, p σ O _ .refl ((c1.trans c2).trans c3) (en.ch ((c1.trans c2).trans c3)) w3⟩
    · cases e4
/-- x.append(e) -/
def sApp (x : Nat) (fe : ME) : MS := fun _ ρ cs => (cellOf ρ[x]?).bind fun k => (fe ρ cs).bind fun p => match deg p.1, p.2[k]? with
  | .dat d, some (some c) => if c.length < sizeLine then some (.nx ρ (p.2.set k (some (c ++ [d])))) else none
  | _, _ => none
end
end DL
namespace DL
open PySem PySem.Spec PyProof.Rows L2
section
variable {X : Cx}
/-- a rule that runs a statement from the environment: x.append(e) -/
theorem xs_app {x : Nat} {nm : Str} {e : Expr} {fe : ME} {p1 apos cpos pos : Pos} (hN : X.N[x]? = some nm) (hv : Vis X.env.scope nm) (he : XE X fe e)
    (hs : starEach [e] X.env = (false, eval e X.env) :: starEach [] X.env := by rfl)
    (hbase : attributeBase (.Name nm p1) "append" X.env (eval (.Name nm p1) X.env) = eval (.Name nm p1) X.env := by rfl)
    (hfew : ((backTo cpos (starEach [e] X.env)).all (fun x => !x.1) && (backToKw cpos (keywordEach [] X.env)).all (fun x => x.1.isSome)
      && decide ([e].length + ([] : List Keyword).length + (if ([] : List Keyword).isEmpty then 0 else 1) < 30)) = true := by rfl)
    (hline : (apos.endLine == cpos.line) = true := by rfl) (hplain : (backTo cpos (starEach [] X.env)).any (·.1) = false := by rfl)
    (hsw : swapsWith (.Call (.Attribute (.Name nm p1) "append" apos) [e] [] cpos) none pos.line X.env = pure false := by rfl)
    (hd : (nm == ("__debug__" : Str)) = false := by decide) (hcd : (nm == ("__classdict__" : Str)) = false := by decide) :
    XS X (sApp x fe) (.Expr (.Call (.Attribute (.Name nm p1) "append" apos) [e] [] cpos) pos) :=
  ps_weak (ps_expr (pe_bm PySem.F.plainAttrs_list PySem.F.slot_list_append PySem.F.type_list_append mt_append (pe_var hN hv hd hcd) (pa_cons he pa_nil hs) hbase hfew hline hs hplain) hsw) fun D σ H ⟨n0, ρ, O, cs, out, e0, hn, en, w, p⟩ => by
    obtain ⟨k, g2, e2⟩ := Option.bind_eq_some_iff.mp e0
    obtain ⟨⟨r, cs1⟩, g3, e3⟩ := Option.bind_eq_some_iff.mp e2
    clear e0 e2
    obtain ⟨u, q1, a, rfl, q2⟩ := en.slot x _ (cellOf_some g2)
    obtain ⟨c0, vs0, h0, h1, h2⟩ := w.cell k a q2
    refine ⟨_, q1, .inl ⟨rfl, _, .inl (.inl h1)⟩, ρ, O, cs, r, cs1, g3, en, w, fun v H1 c1 w1 rv => ?_⟩
    have rr := rv.deg
    dsimp only at e3
    split at e3
    · rename_i d c hd' hc'
      obtain ⟨hz, rfl⟩ := ite_some e3
      rw [hd'] at rr
      obtain ⟨c', vs, h5, h6, h7⟩ := w1.cell k a q2
      rw [hc'] at h5; cases h5
      obtain ⟨w3, c3⟩ := w1.write q2 (h7.append (.cons (show Rp X.K (DL.hd O H1) v d from rr) .nil))
      exact ⟨a, vs, v, rfl, rfl, h6, by rw [h7.length]; exact hz, p σ O _ .refl (c1.trans c3) (en.ch (c1.trans c3)) w3⟩
    · cases e3

/-! ### what is walked -/
abbrev MI := Rho → Cs → Option (List D × Cs)
def Walk (K : PySem.W.Frag) (O : List (Option Addr)) (H1 : Hp) (J : It) (ds : List D) : Prop := ∀ (i : Nat) (O2 : List (Option Addr)) (cs2 : Cs) (H2 : Hp), Sub O H1 O2 H2 → Wd K O2 cs2 H2 →
  (ds.length ≤ i → J.stop i H2) ∧ ∀ d, ds[i]? = some d → J.go i H2 ∧ ∀ x H3, J.yld i H2 x H3 → Ch O2 H2 H3 ∧ Wd K O2 cs2 H3 ∧ Rp K (hd O2 H3) x d
def tI (K : PySem.W.Frag) (f : MI) : TI := fun σ H R => ∃ ρ O cs ds cs', f ρ cs = some (ds, cs') ∧ EnvOk K O H ρ σ ∧ Wd K O cs H ∧ ∀ J H', Ch O H H' → Wd K O cs' H' → Walk K O H' J ds → R J H'
def XI (X : Cx) (f : MI) (tg iter : Expr) : Prop := PI X tg iter (tI X.K f)
theorem pi_weak {tg iter : Expr} {t t' : TI} (h : PI X tg iter t) (w : ∀ σ H R, t' σ H R → t σ H R) : PI X tg iter t' := ⟨fun pins s σ H R I q => h.run pins s σ H R I (w _ _ _ q)⟩
def loopM (g : MG) (b : MS) (n0 : Nat) : List D → Rho → Cs → Option Out
  | [], ρ, cs => some (.nx ρ cs)
  | d :: ds, ρ, cs => (g d ρ).bind fun ρ1 => (b n0 ρ1 cs).bind fun o => match o with
    | .nx ρ2 cs2 => loopM g b n0 ds ρ2 cs2
    | .ct ρ2 cs2 => loopM g b n0 ds ρ2 cs2
    | .bk ρ2 cs2 => some (.nx ρ2 cs2)
    | .rt r cs2 => some (.rt r cs2)
def sFor (f : MI) (g : MG) (b : MS) : MS := fun n0 ρ cs => (f ρ cs).bind fun p => loopM g b n0 p.1 ρ p.2
theorem loopM_ends {g : MG} {b : MS} {n0 : Nat} : ∀ {ds : List D} {ρ : Rho} {cs : Cs} {out : Out}, loopM g b n0 ds ρ cs = some out → (∃ ρ' cs', out = .nx ρ' cs') ∨ ∃ r cs', out = .rt r cs'
  | [], ρ, cs, out, h => by cases h; exact .inl ⟨_, _, rfl⟩
  | d :: ds, ρ, cs, out, h => by
    obtain ⟨ρ1, h1, h2⟩ := Option.bind_eq_some_iff.mp h
    obtain ⟨o, h3, h4⟩ := Option.bind_eq_some_iff.mp h2
    cases o with
    | nx ρ2 cs2 => exact loopM_ends h4
    | ct ρ2 cs2 => exact loopM_ends h4
    | bk ρ2 cs2 => cases h4; exact .inl ⟨_, _, rfl⟩
    | rt r cs2 => cases h4; exact .inr ⟨_, _, rfl⟩
theorem xs_for {tg iter : Expr} {body : List Stmt} {f : MI} {g : MG} {b : MS} {pos : Pos} {ws : List Nat} (hp : PassesOwn (model X.prog X.w) X.A X.env X.xe) (hc : X.calm = true) (hi : XI X f tg iter) (hg : XG X ws g tg) (hb : XSs X b body)
    (hs : ∀ x, foldedSetIterable iter X.env x = pure x := by intro _; rfl) : XS X (sFor f g b) (.For tg iter body [] pos) :=
  ps_weak (ps_for hp hc hi hg hb hs) fun D σ H ⟨n0, ρ, O, cs, out, e0, hn, en, w, p⟩ => by
    obtain ⟨⟨ds, cs1⟩, g1, g2⟩ := Option.bind_eq_some_iff.mp e0
    clear e0
    refine ⟨ρ, O, cs, ds, cs1, g1, en, w, fun J H1 c1 w1 wk => ?_⟩
    have p1 := p.step w w1 .refl c1
    refine ⟨fun i m σ' H' => m = ds.length - i ∧ i ≤ ds.length ∧ ∃ ρ' O' cs', loopM g b n0 (ds.drop i) ρ' cs' = some out ∧ EnvOk X.K O' H' ρ' σ' ∧ Wd X.K O' cs' H' ∧ Ext n0 O O' H1 ∧ Ch O H1 H', ⟨ds.length, by simp, Nat.zero_le _, ρ, O, cs1, g2, en.ch c1, w1, .refl, .refl⟩, ?_⟩
    rintro i m σ' H' ⟨rfl, hi', ρ', O', cs', e1, en', w', ex', ch'⟩
    have sb : Sub O H1 O' H' := Sub.of ex' ch'
    have hn' : n0 ≤ O'.length := ex'.len hn
    have p' : PostS X.K n0 O' H' out D := p1.step w1 w' ex' ch'
    by_cases hlt : i < ds.length
    · have hd' : ds[i]? = some ds[i] := List.getElem?_eq_getElem hlt
      rw [List.drop_eq_getElem_cons hlt] at e1
      obtain ⟨ρ1, h1, e2⟩ := Option.bind_eq_some_iff.mp e1
      obtain ⟨o, h3, e3⟩ := Option.bind_eq_some_iff.mp e2
      clear e1 e2
      obtain ⟨go, yl⟩ := (wk i O' cs' H' sb w').2 _ hd'
      refine .inr ⟨go, fun σ2 H2 => i + 1 ≤ ds.length ∧ ∃ ρ2 O2 cs2, loopM g b n0 (ds.drop (i + 1)) ρ2 cs2 = some out ∧ EnvOk X.K O2 H2 ρ2 σ2 ∧ Wd X.K O2 cs2 H2 ∧ Ext n0 O O2 H1 ∧ Ch O H1 H2, fun σ2 H2 h2 => ⟨ds.length - (i + 1), by omega, rfl, h2⟩, fun x H3 hy => ?_⟩
      obtain ⟨c3, w3, r3⟩ := yl x H3 hy
      refine ⟨ρ', O', cs', ds[i], ρ1, h1, r3, en'.ch c3, w3, fun σ4 en4 _ => ?_⟩
      refine ⟨n0, ρ1, O', cs', o, h3, hn', en4, w3, ?_⟩
      have again : ∀ ρ2 cs2, loopM g b n0 (ds.drop (i + 1)) ρ2 cs2 = some out → ∀ σ5 O5 H5, Ext n0 O' O5 H3 → Ch O' H3 H5 → EnvOk X.K O5 H5 ρ2 σ5 → Wd X.K O5 cs2 H5 →
          i + 1 ≤ ds.length ∧ ∃ ρ2 O2 cs2, loopM g b n0 (ds.drop (i + 1)) ρ2 cs2 = some out ∧ EnvOk X.K O2 H5 ρ2 σ5 ∧ Wd X.K O2 cs2 H5 ∧ Ext n0 O O2 H1 ∧ Ch O H1 H5 := fun ρ2 cs2 hl σ5 O5 H5 e5 c5 en5 w5 => by
        have ex3 : Ext n0 O O' H1 := ex'
        have ch3 : Ch O H1 H3 := ch'.ext ex' c3
        exact ⟨hlt, ρ2, O5, cs2, hl, en5, w5, ex3.trans w1 w3 ch3 e5, ch3.ext ex3 c5⟩
      have p3 : PostS X.K n0 O' H3 out D := p'.step w' w3 .refl c3
      cases o with
      | nx ρ2 cs2 => exact again ρ2 cs2 e3
      | ct ρ2 cs2 => exact again ρ2 cs2 e3
      | bk ρ2 cs2 => cases e3; exact p3
      | rt r cs2 => cases e3; exact p3
    · have ei : i = ds.length := by omega
      subst ei
      rw [List.drop_length] at e1
      cases e1
      exact .inl ⟨(wk ds.length O' cs' H' sb w').1 (Nat.le_refl _), p' _ O' H' .refl .refl en' w'⟩
/-! while -/
def wh (c : MT) (b : MS) (n0 : Nat) : Nat → Rho → Cs → Option Out
  | 0, _, _ => none
  | n + 1, ρ, cs => (c ρ cs).bind fun p => if p.1 = true then (b n0 ρ p.2).bind fun o => match o with
      | .nx ρ2 cs2 => wh c b n0 n ρ2 cs2
      | .ct ρ2 cs2 => wh c b n0 n ρ2 cs2
      | .bk ρ2 cs2 => some (.nx ρ2 cs2)
      | .rt r cs2 => some (.rt r cs2)
    else some (.nx ρ p.2)
open Classical in
noncomputable def sWh (c : MT) (b : MS) : MS := fun n0 ρ cs => if h : ∃ n, (wh c b n0 n ρ cs).isSome = true then wh c b n0 (Classical.choose h) ρ cs else none
theorem sWh_some {c : MT} {b : MS} {n0 : Nat} {ρ : Rho} {cs : Cs} {out : Out} (h : sWh c b n0 ρ cs = some out) : ∃ n, wh c b n0 n ρ cs = some out := by
  unfold sWh at h
  split at h
  · exact ⟨_, h⟩
  · cases h
theorem wh_mono {c : MT} {b : MS} {n0 : Nat} : ∀ {n : Nat} {ρ : Rho} {cs : Cs} {out : Out}, wh c b n0 n ρ cs = some out → ∀ k, wh c b n0 (n + k) ρ cs = some out
  | 0, _, _, _, h, _ => by cases h
  | n + 1, ρ, cs, out, h, k => by
    obtain ⟨⟨t, cs1⟩, h1, h2⟩ := Option.bind_eq_some_iff.mp h
    rw [show n + 1 + k = (n + k) + 1 by omega]
    refine Option.bind_eq_some_iff.mpr ⟨_, h1, ?_⟩
    cases t with
    | false => exact h2
    | true =>
      obtain ⟨o, h3, h4⟩ := Option.bind_eq_some_iff.mp h2
      refine Option.bind_eq_some_iff.mpr ⟨o, h3, ?_⟩
      cases o with
      | nx ρ2 cs2 => exact wh_mono h4 k
      | ct ρ2 cs2 => exact wh_mono h4 k
      | bk ρ2 cs2 => exact h4
      | rt r cs2 => exact h4
theorem sWh_of {c : MT} {b : MS} {n0 n : Nat} {ρ : Rho} {cs : Cs} {out : Out} (h : wh c b n0 n ρ cs = some out) : sWh c b n0 ρ cs = some out := by
  have hx : ∃ n, (wh c b n0 n ρ cs).isSome = true := ⟨n, by rw [h]; rfl⟩
  unfold sWh
  rw [dif_pos hx]
  obtain ⟨o, ho⟩ := Option.isSome_iff_exists.mp (Classical.choose_spec hx)
  rw [ho]
  have a := wh_mono h (Classical.choose hx)
  have b' := wh_mono ho n
  rw [Nat.add_comm] at b'
  rw [a] at b'
  exact b'.symm
theorem xs_while {c : Expr} {body : List Stmt} {t : MT} {b : MS} {pos : Pos} (hp : PassesOwn (model X.prog X.w) X.A X.env X.xe) (hc : XT X t c) (hb : XSs X b body) : XS X (sWh t b) (.While c body [] pos) :=
  ps_weak (ps_while hp hc hb) fun D σ H ⟨n0, ρ, O, cs, out, e0, hn, en, w, p⟩ => by
    obtain ⟨n, e1⟩ := sWh_some e0
    clear e0
    refine ⟨fun m σ' H' => ∃ ρ' O' cs', wh t b n0 m ρ' cs' = some out ∧ EnvOk X.K O' H' ρ' σ' ∧ Wd X.K O' cs' H' ∧ Ext n0 O O' H ∧ Ch O H H', ⟨n, ρ, O, cs, e1, en, w, .refl, .refl⟩, ?_⟩
    rintro m σ' H' ⟨ρ', O', cs', e2, en', w', ex', ch'⟩
    cases m with
    | zero => cases e2
    | succ m =>
      obtain ⟨⟨k, cs1⟩, h1, e3⟩ := Option.bind_eq_some_iff.mp e2
      clear e2
      have p' : PostS X.K n0 O' H' out D := p.step w w' ex' ch'
      refine ⟨ρ', O', cs', k, cs1, h1, en', w', fun H1 c1 w1 => ?_⟩
      have p1 : PostS X.K n0 O' H1 out D := p'.step w' w1 .refl c1
      cases k with
      | false =>
        cases e3
        exact p1 σ' O' H1 .refl .refl (en'.ch c1) w1
      | true =>
        obtain ⟨o, h3, e4⟩ := Option.bind_eq_some_iff.mp e3
        clear e3
        refine ⟨fun σ2 H2 => ∃ ρ2 O2 cs2, wh t b n0 m ρ2 cs2 = some out ∧ EnvOk X.K O2 H2 ρ2 σ2 ∧ Wd X.K O2 cs2 H2 ∧ Ext n0 O O2 H ∧ Ch O H H2, fun σ2 H2 h2 => ⟨m, Nat.lt_succ_self m, h2⟩, ?_⟩
        refine ⟨n0, ρ', O', cs1, o, h3, ex'.len hn, en'.ch c1, w1, ?_⟩
        have ch1 : Ch O H H1 := ch'.ext ex' c1
        have again : ∀ ρ2 cs2, wh t b n0 m ρ2 cs2 = some out → ∀ σ5 O5 H5, Ext n0 O' O5 H1 → Ch O' H1 H5 → EnvOk X.K O5 H5 ρ2 σ5 → Wd X.K O5 cs2 H5 →
            ∃ ρ2 O2 cs2, wh t b n0 m ρ2 cs2 = some out ∧ EnvOk X.K O2 H5 ρ2 σ5 ∧ Wd X.K O2 cs2 H5 ∧ Ext n0 O O2 H ∧ Ch O H H5 := fun ρ2 cs2 hl σ5 O5 H5 e5 c5 en5 w5 =>
          ⟨ρ2, O5, cs2, hl, en5, w5, ex'.trans w w1 ch1 e5, ch1.ext ex' c5⟩
        cases o with
        | nx ρ2 cs2 => exact again ρ2 cs2 e4
        | ct ρ2 cs2 => exact again ρ2 cs2 e4
        | bk ρ2 cs2 => cases e4; exact p1
        | rt r cs2 => cases e4; exact p1
end
end DL
namespace DL
open PySem PySem.Spec PyProof.Rows L2
section
variable {X : Cx}
/-! sources -/
def itemsOf : D → Option (List D)
  | .list ds => some ds
  | .tuple ds => some ds
  | .str x => some (x.cps.toList.map fun c => .str ⟨#[c]⟩)
  | .dict kvs => if (!isFn kvs && kvs.all fun p => match p.1 with | .str x => decide (x.length ≤ sizeLine) | _ => true) = true then some (kvs.map (·.1)) else none
  | _ => none
def iSeq (f : ME) : MI := fun ρ cs => (f ρ cs).bind fun p => match deg p.1 with
  | .dat d => (itemsOf d).map fun ds => (ds, p.2)
  | _ => none
theorem iSeq_some {f : ME} {ρ : Rho} {cs cs' : Cs} {ds : List D} (h : iSeq f ρ cs = some (ds, cs')) : ∃ r d, f ρ cs = some (r, cs') ∧ deg r = .dat d ∧ itemsOf d = some ds := by
  obtain ⟨⟨r, cs1⟩, h1, h2⟩ := Option.bind_eq_some_iff.mp h
  dsimp only at h2
  split at h2
  · rename_i d hd'
    obtain ⟨x, h3, h4⟩ := Option.map_eq_some_iff.mp h2
    cases h4
    exact ⟨r, d, h1, hd', h3⟩
  · cases h2
theorem walk_list {K : PySem.W.Frag} {O : List (Option Addr)} {H : Hp} {a : Addr} {ds : List D} (r : Rp K (hd O H) (.ref a) (.list ds)) : Walk K O H (Itl K a) ds := by
  intro i O2 cs2 H2 sb w2
  cases r with
  | lst q r =>
    have q2 : SqL K H2 a _ := ((q.mono sb).mono hd_le).sq
    have r2 := r.mono sb
    refine ⟨fun hi => ⟨_, q2, by rw [r2.length]; exact hi⟩, fun d hd' => ?_⟩
    obtain ⟨v, h1, h2⟩ := r2.get hd'
    refine ⟨⟨_, v, q2, h1⟩, fun x H3 hy => ?_⟩
    obtain ⟨rfl, fx⟩ := hy
    have := fx _ q2
    rw [h1] at this; cases this
    exact ⟨.refl, w2, h2⟩
theorem walk_tup {K : PySem.W.Frag} {O : List (Option Addr)} {H : Hp} {a : Addr} {ds : List D} (r : Rp K (hd O H) (.ref a) (.tuple ds)) : Walk K O H (Itt K a) ds := by
  intro i O2 cs2 H2 sb w2
  cases r with
  | tup q r =>
    have q2 : SqT K H2 a _ := sqT_mono hd_le (sqT_mono sb q)
    have r2 := r.mono sb
    refine ⟨fun hi => ⟨_, q2, by rw [r2.length]; exact hi⟩, fun d hd' => ?_⟩
    obtain ⟨v, h1, h2⟩ := r2.get hd'
    refine ⟨⟨_, v, q2, h1⟩, fun x H3 hy => ?_⟩
    obtain ⟨rfl, fx⟩ := hy
    have := fx _ q2
    rw [h1] at this; cases this
    exact ⟨.refl, w2, h2⟩
theorem walk_str {K : PySem.W.Frag} {O : List (Option Addr)} {H : Hp} {x : Str} : Walk K O H (Its x) (x.cps.toList.map fun c => .str ⟨#[c]⟩) := by
  intro i O2 cs2 H2 sb w2
  refine ⟨fun hi => (show x.cps.size ≤ i by simpa using hi), fun d hd' => ?_⟩
  rw [List.getElem?_map] at hd'
  obtain ⟨c, h1, h2⟩ := Option.map_eq_some_iff.mp hd'
  have h1' : x.cps[i]? = some c := by simpa using h1
  refine ⟨(Array.getElem?_eq_some_iff.mp h1').1, fun v H3 hy => ?_⟩
  obtain ⟨rfl, c', hc', rfl⟩ := hy
  rw [h1'] at hc'; cases hc'
  subst h2
  exact ⟨.refl, w2, .str _ (one_sign c)⟩
theorem kV_rp {K : PySem.W.Frag} {H : Hp} {k : Key} (h : ∀ x, k = .inr x → x.length ≤ sizeLine) : Rp K H (kV k) (kD k) := by
  cases k with
  | inl i => exact .int i
  | inr x => exact .str x (h x rfl)
theorem walk_keys {K : PySem.W.Frag} {O : List (Option Addr)} {H : Hp} {a : Addr} {o : Obj} {kvs : List (Key × V)} {ds : List (D × D)} (q : hd O H a = some (.frz o (.dK kvs))) (e : kvs.map (fun p => kD p.1) = ds.map (·.1)) (hz : ∀ (i : Nat) x v, kvs[i]? = some (.inr x, v) → x.length ≤ sizeLine) : Walk K O H (Itk a o kvs) (ds.map (·.1)) := by
  intro i O2 cs2 H2 sb w2
  have q2 := hd_le _ _ (sb _ _ q)
  rw [← e]
  refine ⟨fun hi => ⟨q2, by simpa using hi⟩, fun d hd' => ?_⟩
  rw [List.getElem?_map] at hd'
  obtain ⟨⟨k, v⟩, h1, h2⟩ := Option.map_eq_some_iff.mp hd'
  refine ⟨⟨q2, (List.getElem?_eq_some_iff.mp h1).1⟩, fun x H3 hy => ?_⟩
  obtain ⟨rfl, k', v', h3, rfl⟩ := hy
  rw [h1] at h3
  cases h3
  subst h2
  exact ⟨.refl, w2, kV_rp fun x hx => by subst hx; exact hz i x v h1⟩
theorem xi_seq {tg e : Expr} {f : ME} (he : XE X f e) : XI X (iSeq f) tg e := ⟨fun pins s σ H R I ⟨ρ, O, cs, ds, cs', e0, en, w, p⟩ => by
  obtain ⟨r, d, h1, h2, h3⟩ := iSeq_some e0
  cases d with
  | list xs =>
    cases h3
    refine (pi_list he).run pins s σ H R I ⟨ρ, O, cs, r, cs', h1, en, w, fun v H' c w' rv => ?_⟩
    have rr := rv.deg
    rw [h2] at rr
    have rr' : Rp X.K (DL.hd O H') v (.list ds) := rr
    have hw := rr'
    cases rr' with
    | lst q rp => exact ⟨_, rfl, ⟨_, (q.mono hd_le).sq⟩, p _ H' c w' (walk_list hw)⟩
  | tuple xs =>
    cases h3
    refine (pi_tup he).run pins s σ H R I ⟨ρ, O, cs, r, cs', h1, en, w, fun v H' c w' rv => ?_⟩
    have rr := rv.deg
    rw [h2] at rr
    have rr' : Rp X.K (DL.hd O H') v (.tuple ds) := rr
    have hw := rr'
    cases rr' with
    | tup q rp => exact ⟨_, rfl, ⟨_, sqT_mono hd_le q⟩, p _ H' c w' (walk_tup hw)⟩
  | str x =>
    cases h3
    refine (pi_str he).run pins s σ H R I ⟨ρ, O, cs, r, cs', h1, en, w, fun v H' c w' rv => ?_⟩
    have rr := rv.deg
    rw [h2] at rr
    have rr' : Rp X.K (DL.hd O H') v (.str x) := rr
    cases rr' with
    | str _ q => exact ⟨x, rfl, p _ H' c w' walk_str⟩
  | dict kvs =>
    obtain ⟨h4, h3⟩ := ite_some h3
    obtain ⟨h4', h4⟩ := Bool.and_eq_true_iff.mp h4
    subst h3
    refine (pi_keys he).run pins s σ H R I ⟨ρ, O, cs, r, cs', h1, en, w, fun v H' c w' rv => ?_⟩
    have rr := rv.deg
    rw [h2] at rr
    have rr' : Rp X.K (DL.hd O H') v (.dict kvs) := rr
    cases rr' with
    | fn _ => cases h4'
    | dct q e b =>
      refine ⟨_, _, rfl, .inl ⟨_, hd_le _ _ q, p _ H' c w' (walk_keys q e fun i x v' hi => ?_)⟩⟩
      have h5 : kD (.inr x) ∈ kvs.map (·.1) := by
        rw [← e]
        exact List.mem_map.mpr ⟨_, List.mem_of_getElem? hi, rfl⟩
      obtain ⟨pr, h6, h7⟩ := List.mem_map.mp h5
      have h8 := List.all_eq_true.mp h4 pr h6
      rw [h7] at h8
      exact of_decide_eq_true h8
  | _ => cases h3⟩
/-- range -/
def rngD (lo : Int) (n : Nat) : List D := (List.range n).map fun i : Nat => .int (lo + (i : Int))
theorem walk_rng {K : PySem.W.Frag} {O : List (Option Addr)} {H : Hp} {lo : Int} {n : Nat} : Walk K O H (Itr lo n) (rngD lo n) := by
  intro i O2 cs2 H2 sb w2
  refine ⟨fun hi => (show n ≤ i by simpa [rngD] using hi), fun d hd' => ?_⟩
  unfold rngD at hd'
  rw [List.getElem?_map] at hd'
  obtain ⟨c, h1, h2⟩ := Option.map_eq_some_iff.mp hd'
  have hi : i < n := by
    have := (List.getElem?_eq_some_iff.mp h1).1
    simpa using this
  rw [List.getElem?_range hi] at h1
  cases h1
  subst h2
  refine ⟨hi, fun v H3 hy => ?_⟩
  obtain ⟨rfl, rfl⟩ := hy
  exact ⟨.refl, w2, .int _⟩
def sm62 (i : Int) : Prop := -(2 ^ 62) ≤ i ∧ i < 2 ^ 62
instance (i : Int) : Decidable (sm62 i) := inferInstanceAs (Decidable (_ ∧ _))
def intsOf : List Rv → Option (List Int)
  | [] => some []
  | r :: rs => (intOf r).bind fun i => (intsOf rs).map fun is => i :: is
theorem intsOf_v {K : PySem.W.Frag} {O : List (Option Addr)} {H : Hp} : ∀ {rs : List Rv} {vs : List V} {is : List Int}, ArRs K O H rs vs → intsOf rs = some is → vs = is.map V.int
  | [], [], is, _, e => by cases e; rfl
  | r :: rs, v :: vs, is, h, e => by
    obtain ⟨i, h1, h2⟩ := Option.bind_eq_some_iff.mp e
    obtain ⟨js, h3, h4⟩ := Option.map_eq_some_iff.mp h2
    subst h4
    obtain rfl : r = di i := intOf_some h1
    cases (show Rp K (hd O H) v (.int i) from h.1)
    rw [intsOf_v h.2 h3]; rfl
  | [], _ :: _, _, h, _ => h.elim
  | _ :: _, [], _, h, _ => h.elim
def iRg1 (fa : MA) : MI := fun ρ cs => (fa ρ cs).bind fun p => match intsOf p.1 with
  | some [j] => if sm62 j then some (rngD 0 j.toNat, p.2) else none
  | _ => none
def iRg2 (fa : MA) : MI := fun ρ cs => (fa ρ cs).bind fun p => match intsOf p.1 with
  | some [i, j] => if sm62 i ∧ sm62 j then some (rngD i (j - i).toNat, p.2) else none
  | _ => none
theorem xi_range1 {tg a : Expr} {fa : MA} {p pos : Pos} (hg : Gl X "range") (hm : X.mg "range" = none) (ha : XA X fa [a]) (hs : starEach [a] X.env = [(false, eval a X.env)] := by rfl) : XI X (iRg1 fa) tg (.Call (.Name "range" p) [a] [] pos) :=
  pi_weak (pi_range1 hg hm ha hs) fun σ H R ⟨ρ, O, cs, ds, cs', e0, en, w, p⟩ => by
    obtain ⟨⟨rs, cs1⟩, h1, h2⟩ := Option.bind_eq_some_iff.mp e0
    refine ⟨ρ, O, cs, rs, cs1, h1, en, w, fun vs H' c w' ra => ?_⟩
    dsimp only at h2
    split at h2
    · rename_i j hj
      obtain ⟨hz, e⟩ := ite_some h2
      cases e
      rw [intsOf_v ra hj]
      exact ⟨j, rfl, hz.1, hz.2, p _ H' c w' walk_rng⟩
    · cases h2
theorem xi_range2 {tg a b : Expr} {fa : MA} {p pos : Pos} (hg : Gl X "range") (hm : X.mg "range" = none) (ha : XA X fa [a, b]) (hs : starEach [a, b] X.env = [(false, eval a X.env), (false, eval b X.env)] := by rfl) (hs2 : starEach [b] X.env = [(false, eval b X.env)] := by rfl) :
    XI X (iRg2 fa) tg (.Call (.Name "range" p) [a, b] [] pos) :=
  pi_weak (pi_range2 hg hm ha hs hs2) fun σ H R ⟨ρ, O, cs, ds, cs', e0, en, w, p⟩ => by
    obtain ⟨⟨rs, cs1⟩, h1, h2⟩ := Option.bind_eq_some_iff.mp e0
    refine ⟨ρ, O, cs, rs, cs1, h1, en, w, fun vs H' c w' ra => ?_⟩
    dsimp only at h2
    split at h2
    · rename_i i j hj
      obtain ⟨hz, e⟩ := ite_some h2
      cases e
      rw [intsOf_v ra hj]
      exact ⟨i, j, rfl, ⟨hz.1.1, hz.1.2, hz.2.1, hz.2.2⟩, p _ H' c w' walk_rng⟩
    · cases h2
/-- enumerate of a list -/
def enumD : Nat → List D → List D
  | _, [] => []
  | i, d :: ds => .tuple [.int (i : Int), d] :: enumD (i + 1) ds
theorem enumD_len : ∀ (ds : List D) (k : Nat), (enumD k ds).length = ds.length
  | [], _ => rfl
  | d :: ds, k => by rw [enumD, List.length_cons, List.length_cons, enumD_len ds]
theorem enumD_get : ∀ (ds : List D) (k i : Nat) (d : D), (enumD k ds)[i]? = some d → ∃ e, ds[i]? = some e ∧ d = .tuple [.int ((k + i : Nat) : Int), e]
  | [], _, _, _, h => by simp [enumD] at h
  | e :: ds, k, 0, d, h => by
    simp [enumD] at h
    exact ⟨e, rfl, h.symm⟩
  | e :: ds, k, i + 1, d, h => by
    have h' : (enumD (k + 1) ds)[i]? = some d := by simpa [enumD] using h
    obtain ⟨e', h1, h2⟩ := enumD_get ds (k + 1) i d h'
    exact ⟨e', by simpa using h1, by rw [h2, show k + 1 + i = k + (i + 1) by omega]⟩
theorem two_rp {K : PySem.W.Frag} {O : List (Option Addr)} {cs : Cs} {H : Hp} {T : Addr} {x y : V} {d e : D} (w : Wd K O cs H) (hT : H T = none) (hx : Rp K (hd O H) x d) (hy : Rp K (hd O H) y e) :
    Ch O H (upd H T (.tup [x, y])) ∧ Wd K O cs (upd H T (.tup [x, y])) ∧ Rp K (hd O (upd H T (.tup [x, y]))) (.ref T) (.tuple [d, e]) :=
  ⟨ch_new hT, w.new hT, .tup (.inl (.inl (hd_of (w.fresh hT) upd_same))) (.cons (hx.mono (ch_new hT).data) (.cons (hy.mono (ch_new hT).data) .nil))⟩
theorem walk_enum {K : PySem.W.Frag} {O : List (Option Addr)} {H : Hp} {a : Addr} {ds : List D} (r : Rp K (hd O H) (.ref a) (.list ds)) : Walk K O H (Ite K a) (enumD 0 ds) := by
  intro i O2 cs2 H2 sb w2
  cases r with
  | lst q r =>
    have q2 : SqL K H2 a _ := ((q.mono sb).mono hd_le).sq
    have r2 := r.mono sb
    refine ⟨fun hi => ⟨_, q2, by rw [r2.length]; rw [enumD_len] at hi; exact hi⟩, fun d hd' => ?_⟩
    obtain ⟨e, h0, rfl⟩ := enumD_get ds 0 i d hd'
    obtain ⟨v, h1, h2⟩ := r2.get h0
    refine ⟨⟨_, v, q2, h1⟩, fun x H3 hy => ?_⟩
    obtain ⟨T, y, rfl, hT, rfl, fx⟩ := hy
    have := fx _ q2
    rw [h1] at this; cases this
    rw [Nat.zero_add]
    exact two_rp w2 hT (.int _) h2
def lstOf (r : Rv) : Option (List D) := match deg r with
  | .dat (.list ds) => some ds
  | _ => none
theorem lstOf_some {r : Rv} {ds : List D} (h : lstOf r = some ds) : deg r = .dat (.list ds) := by
  unfold lstOf at h
  split at h
  · rename_i xs hx; cases h; exact hx
  · cases h
def iEn (fa : MA) : MI := fun ρ cs => (fa ρ cs).bind fun p => match p.1 with
  | [r] => (lstOf r).map fun ds => (enumD 0 ds, p.2)
  | _ => none
theorem deg_ar {K : PySem.W.Frag} {O : List (Option Addr)} {H : Hp} {r : Rv} {v : V} (h : ArR K O r v H) : deg r = r := by
  cases r with
  | fr c => exact h.elim
  | ft d => exact h.elim
  | _ => rfl
theorem xi_enum {e : Expr} {fa : MA} {p pos tpos : Pos} {elts : List Expr} {kk : Nat} (hg : Gl X "enumerate") (hm : X.mg "enumerate" = none) (ha : XA X fa [e]) (hs : starEach [e] X.env = [(false, eval e X.env)] := by rfl) :
    XI X (iEn fa) (.Tuple elts kk tpos) (.Call (.Name "enumerate" p) [e] [] pos) :=
  pi_weak (pi_enum hg hm ha hs) fun σ H R ⟨ρ, O, cs, ds, cs', e0, en, w, p⟩ => by
    obtain ⟨⟨rs, cs1⟩, h1, h2⟩ := Option.bind_eq_some_iff.mp e0
    refine ⟨ρ, O, cs, rs, cs1, h1, en, w, fun vs H' c w' ra => ?_⟩
    dsimp only at h2
    split at h2
    · rename_i r
      obtain ⟨xs, h3, h4⟩ := Option.map_eq_some_iff.mp h2
      cases h4
      match vs, ra with
      | [v], ra =>
        have rr := ra.1
        rw [← deg_ar ra.1, lstOf_some h3] at rr
        have rr' : Rp X.K (DL.hd O H') v (.list xs) := rr
        have hw := rr'
        cases rr' with
        | lst q rp => exact ⟨_, _, rfl, (q.mono hd_le).sq, p _ H' c w' (walk_enum hw)⟩
      | [], ra => exact ra.elim
      | _ :: _ :: _, ra => exact ra.2.elim
    · cases h2
/-- zip of two lists, of two tuples -/
def zipD : List D → List D → List D
  | x :: xs, y :: ys => .tuple [x, y] :: zipD xs ys
  | _, _ => []
theorem zipD_len : ∀ (xs ys : List D), (zipD xs ys).length = min xs.length ys.length
  | [], ys => by simp [zipD]
  | x :: xs, [] => by simp [zipD]
  | x :: xs, y :: ys => by rw [zipD, List.length_cons, zipD_len xs ys, List.length_cons, List.length_cons]; omega
theorem zipD_get : ∀ (xs ys : List D) (i : Nat) (d : D), (zipD xs ys)[i]? = some d → ∃ x y, xs[i]? = some x ∧ ys[i]? = some y ∧ d = .tuple [x, y]
  | [], ys, _, _, h => by simp [zipD] at h
  | x :: xs, [], _, _, h => by simp [zipD] at h
  | x :: xs, y :: ys, 0, d, h => by
    simp [zipD] at h
    exact ⟨x, y, rfl, rfl, h.symm⟩
  | x :: xs, y :: ys, i + 1, d, h => by
    have h' : (zipD xs ys)[i]? = some d := by simpa [zipD] using h
    obtain ⟨a, b, h1, h2, h3⟩ := zipD_get xs ys i d h'
    exact ⟨a, b, by simpa using h1, by simpa using h2, h3⟩
theorem walk_zip {K : PySem.W.Frag} {O : List (Option Addr)} {H : Hp} {a b : Addr} {xs ys : List D} (r : Rp K (hd O H) (.ref a) (.list xs)) (r' : Rp K (hd O H) (.ref b) (.list ys)) : Walk K O H (Itz K a b) (zipD xs ys) := by
  intro i O2 cs2 H2 sb w2
  cases r with
  | lst q r =>
    cases r' with
    | lst q' r' =>
      have q2 : SqL K H2 a _ := ((q.mono sb).mono hd_le).sq
      have q3 : SqL K H2 b _ := ((q'.mono sb).mono hd_le).sq
      have r2 := r.mono sb
      have r3 := r'.mono sb
      refine ⟨fun hi => ⟨_, _, q2, q3, ?_⟩, fun d hd' => ?_⟩
      · rw [zipD_len] at hi
        rw [r2.length, r3.length]; omega
      · obtain ⟨x, y, hx, hy, rfl⟩ := zipD_get xs ys i d hd'
        obtain ⟨v, h1, h2⟩ := r2.get hx
        obtain ⟨u, h3, h4⟩ := r3.get hy
        refine ⟨⟨_, _, v, u, q2, q3, h1, h3⟩, fun z H3 hz => ?_⟩
        obtain ⟨T, v', u', rfl, hT, rfl, fx, fy⟩ := hz
        have e1 := fx _ q2
        have e2 := fy _ q3
        rw [h1] at e1; cases e1
        rw [h3] at e2; cases e2
        exact two_rp w2 hT h2 h4
theorem walk_zipT {K : PySem.W.Frag} {O : List (Option Addr)} {H : Hp} {a b : Addr} {xs ys : List D} (r : Rp K (hd O H) (.ref a) (.tuple xs)) (r' : Rp K (hd O H) (.ref b) (.tuple ys)) : Walk K O H (RZ.ItzT K a b) (zipD xs ys) := by
  intro i O2 cs2 H2 sb w2
  cases r with
  | tup q r =>
    cases r' with
    | tup q' r' =>
      have q2 : SqT K H2 a _ := sqT_mono hd_le (sqT_mono sb q)
      have q3 : SqT K H2 b _ := sqT_mono hd_le (sqT_mono sb q')
      have r2 := r.mono sb
      have r3 := r'.mono sb
      refine ⟨fun hi => ⟨_, _, q2, q3, ?_⟩, fun d hd' => ?_⟩
      · rw [zipD_len] at hi
        rw [r2.length, r3.length]; omega
      · obtain ⟨x, y, hx, hy, rfl⟩ := zipD_get xs ys i d hd'
        obtain ⟨v, h1, h2⟩ := r2.get hx
        obtain ⟨u, h3, h4⟩ := r3.get hy
        refine ⟨⟨_, _, v, u, q2, q3, h1, h3⟩, fun z H3 hz => ?_⟩
        obtain ⟨T, v', u', rfl, hT, rfl, fx, fy⟩ := hz
        have e1 := fx _ q2
        have e2 := fy _ q3
        rw [h1] at e1; cases e1
        rw [h3] at e2; cases e2
        exact two_rp w2 hT h2 h4
def iZp (fa : MA) : MI := fun ρ cs => (fa ρ cs).bind fun p => match p.1 with
  | [.dat (.list xs), .dat (.list ys)] => some (zipD xs ys, p.2)
  | [.dat (.tuple xs), .dat (.tuple ys)] => some (zipD xs ys, p.2)
  | _ => none
theorem xi_zip {e e2 : Expr} {fa : MA} {p pos tpos : Pos} {elts : List Expr} {kk : Nat} (hg : Gl X "zip") (hm : X.mg "zip" = none) (ha : XA X fa [e, e2])
    (hs : starEach [e, e2] X.env = (false, eval e X.env) :: starEach [e2] X.env := by rfl) (hpl : (backTo pos (starEach [e2] X.env)).any (·.1) = false := by rfl) :
    XI X (iZp fa) (.Tuple elts kk tpos) (.Call (.Name "zip" p) [e, e2] [] pos) :=
  pi_weak (RZ.pi_zipA hg hm ha hs hpl) fun σ H R ⟨ρ, O, cs, ds, cs', e0, en, w, p⟩ => by
    obtain ⟨⟨rs, cs1⟩, h1, h2⟩ := Option.bind_eq_some_iff.mp e0
    refine ⟨ρ, O, cs, rs, cs1, h1, en, w, fun vs H' c w' ra => ?_⟩
    dsimp only at h2
    split at h2
    · rename_i _ xs ys
      cases h2
      match vs, ra with
      | [v, u], ra =>
        have r1 : Rp X.K (DL.hd O H') v (.list xs) := ra.1
        have r2 : Rp X.K (DL.hd O H') u (.list ys) := ra.2.1
        have k1 := r1
        have k2 := r2
        cases r1 with
        | lst q rp =>
          cases r2 with
          | lst q' rp' => exact ⟨_, _, _, _, rfl, .inl ⟨(q.mono hd_le).sq, (q'.mono hd_le).sq, p _ H' c w' (walk_zip k1 k2)⟩⟩
      | [], ra => exact ra.elim
      | [_], ra => exact ra.2.elim
      | _ :: _ :: _ :: _, ra => exact ra.2.2.elim
    · rename_i _ xs ys
      cases h2
      match vs, ra with
      | [v, u], ra =>
        have r1 : Rp X.K (DL.hd O H') v (.tuple xs) := ra.1
        have r2 : Rp X.K (DL.hd O H') u (.tuple ys) := ra.2.1
        have k1 := r1
        have k2 := r2
        cases r1 with
        | tup q rp =>
          cases r2 with
          | tup q' rp' => exact ⟨_, _, _, _, rfl, .inr ⟨sqT_mono hd_le q, sqT_mono hd_le q', p _ H' c w' (walk_zipT k1 k2)⟩⟩
      | [], ra => exact ra.elim
      | [_], ra => exact ra.2.elim
      | _ :: _ :: _ :: _, ra => exact ra.2.2.elim
    · cases h2
end
end DL
namespace DL
open PySem PySem.Spec PyProof.Rows L2
section
variable {X : Cx}
/-! comprehensions -/
def wipeR (ρ : Rho) : List Nat → Rho
  | [] => ρ
  | v :: vs => (wipeR ρ vs).set v none
theorem EnvOk.wipe {K : PySem.W.Frag} {O : List (Option Addr)} {H : Hp} {ρ : Rho} {σ : L2.St} (e : EnvOk K O H ρ σ) : ∀ vs : List Nat, EnvOk K O H (wipeR ρ vs) (L2.wipe σ vs)
  | [] => e
  | v :: vs => by
    have ih := EnvOk.wipe e vs
    refine ⟨by simp [wipeR, L2.wipe, ih.len], fun j r hj => ?_⟩
    unfold wipeR at hj
    by_cases q : v = j
    · subst q
      have hv : v < (wipeR ρ vs).length := by
        have := (List.getElem?_eq_some_iff.mp hj).1
        simpa using this
      rw [List.getElem?_set_self hv] at hj
      cases hj
    · rw [List.getElem?_set_ne q] at hj
      obtain ⟨w, h1, h2⟩ := ih.slot j r hj
      exact ⟨w, by unfold L2.wipe; rw [List.getElem?_set_ne q]; exact h1, h2⟩
def XTs (X : Cx) (f : MT) (es : List Expr) : Prop := PTs X es (tXT X.K f)
theorem pts_weak {es : List Expr} {t t' : TT} (h : PTs X es t) (w : ∀ σ H Q, t' σ H Q → t σ H Q) : PTs X es t' := ⟨fun pins s σ H Q I q => h.run pins s σ H Q I (w _ _ _ q)⟩
def mYes : MT := fun _ cs => some (true, cs)
theorem xts_nil : XTs X mYes [] := pts_weak pts_nil fun σ H Q ⟨ρ, O, cs, b, cs', e, en, w, p⟩ => by
  cases e
  exact p H .refl w
theorem xts_one {c : Expr} {t : MT} (h : XT X t c) : XTs X t [c] := pts_one h
def compM (g : MG) (t : MT) (f : ME) : List D → Rho → Cs → List D → Option (List D × Cs)
  | [], _, cs, acc => some (acc, cs)
  | d :: ds, ρ, cs, acc => (g d ρ).bind fun ρ1 => (t ρ1 (cs ++ [some acc])).bind fun p => if p.1 = true then (f ρ1 p.2).bind fun q => match deg q.1, q.2[cs.length]? with
      | .dat e, some (some c) => if c.length < sizeLine then compM g t f ds ρ (q.2.take cs.length) (c ++ [e]) else none
      | _, _ => none
    else match p.2[cs.length]? with
      | some (some c) => compM g t f ds ρ (p.2.take cs.length) c
      | _ => none
def xComp (f : MI) (g : MG) (t : MT) (e : ME) (vs : List Nat) : ME := fun ρ cs => (f ρ cs).bind fun p => (compM g t e p.1 (wipeR ρ vs) p.2 []).map fun q => (.fr q.1, q.2)
theorem take_of {K : PySem.W.Frag} {O : List (Option Addr)} {p : Addr} {cs : Cs} {H : Hp} (w : Wd K (O ++ [some p]) cs H) : ∃ c, cs[O.length]? = some (some c) ∧ cs = cs.take O.length ++ [some c] := by
  obtain ⟨c, vs, h1, _, _⟩ := w.cell O.length p (by simp)
  have hl : cs.length = O.length + 1 := by rw [w.len]; simp
  refine ⟨c, h1, ?_⟩
  apply List.ext_getElem?
  intro i
  by_cases hi : i < O.length
  · rw [List.getElem?_append_left (by simp; omega), List.getElem?_take_of_lt hi]
  · by_cases he : i = O.length
    · subst he
      rw [List.getElem?_append_right (by simp; omega)]
      have : O.length - (cs.take O.length).length = 0 := by simp; omega
      rw [this, h1]; rfl
    · rw [List.getElem?_eq_none (by omega), List.getElem?_eq_none (by simp; omega)]
theorem wipe_wipe (σ : L2.St) (vs : List Nat) : L2.wipe (L2.wipe σ vs) vs = L2.wipe σ vs := by
  apply List.ext_getElem?
  intro j
  by_cases c : j ∈ vs ∧ j < σ.length
  · simp only [wipe_get, wipe_length, if_pos c]
  · simp only [wipe_get, wipe_length, if_neg c]
theorem set_take {cs : Cs} {n : Nat} {x : Option (List D)} (h : cs.length = n + 1) : cs.set n x = cs.take n ++ [x] := by
  apply List.ext_getElem?
  intro i
  by_cases hi : i < n
  · rw [List.getElem?_append_left (by simp; omega), List.getElem?_take_of_lt hi, List.getElem?_set_ne (by omega)]
  · by_cases he : i = n
    · subst he
      rw [List.getElem?_set_self (by omega), List.getElem?_append_right (by simp; omega)]
      have : i - (cs.take i).length = 0 := by simp; omega
      rw [this]; rfl
    · rw [List.getElem?_eq_none (by simp; omega), List.getElem?_eq_none (by simp; omega)]
theorem tLc_of {K : PySem.W.Frag} {f : MI} {g : MG} {t : MT} {e : ME} {vs : List Nat} {σ : L2.St} {H : Hp} {Q : VK} (h : tX K (xComp f g t e vs) σ H Q) : tLc (tI K f) (tG K vs g) (tXT K t) (tX K e) vs σ H Q := by
  obtain ⟨ρ, O, cs, r, cs', e0, en, w, p⟩ := h
  obtain ⟨⟨ds, cs1⟩, g1, e1⟩ := Option.bind_eq_some_iff.mp e0
  obtain ⟨⟨res, cs9⟩, g2, e2⟩ := Option.map_eq_some_iff.mp e1
  clear e0 e1
  cases e2
  refine ⟨ρ, O, cs, ds, cs1, g1, en, w, fun J H1 c1 w1 wk D hD => ?_⟩
  have hD0 : H D = none := w.new_of w1 c1 hD
  have ex0 : Ext 0 O (O ++ [some D]) H1 := ext_new (K := K) (Nat.zero_le _) hD
  have nD : D ∉ live O := w1.fresh hD
  have w0 : Wd K (O ++ [some D]) (cs1 ++ [some []]) (upd H1 D (.lst [])) := w1.newList hD .nil
  have cN : Ch O H1 (upd H1 D (.lst [])) := ch_new hD
  have en0 : EnvOk K (O ++ [some D]) (upd H1 D (.lst [])) (wipeR ρ vs) (L2.wipe σ vs) := EnvOk.ext (n0 := 0) ((en.ch c1).wipe vs) hD cN
  refine ⟨fun i m H' => m = ds.length - i ∧ i ≤ ds.length ∧ ∃ cs2 acc, compM g t e (ds.drop i) (wipeR ρ vs) cs2 acc = some (res, cs9) ∧ Wd K (O ++ [some D]) (cs2 ++ [some acc]) H' ∧ EnvOk K (O ++ [some D]) H' (wipeR ρ vs) (L2.wipe σ vs) ∧ Ch O H1 H', ⟨ds.length, by simp, Nat.zero_le _, cs1, [], g2, w0, en0, cN⟩, ?_⟩
  rintro i m H' ⟨rfl, hi', cs2, acc, e3, w', en', ch'⟩
  have sb : Sub O H1 (O ++ [some D]) H' := Sub.of ex0 ch'
  have hcs2 : cs2.length = O.length := by have := w'.len; simpa using this
  by_cases hlt : i < ds.length
  · have hd' : ds[i]? = some ds[i] := List.getElem?_eq_getElem hlt
    rw [List.drop_eq_getElem_cons hlt] at e3
    obtain ⟨ρ1, h1, e4⟩ := Option.bind_eq_some_iff.mp e3
    obtain ⟨⟨b, cs3⟩, h2, e5⟩ := Option.bind_eq_some_iff.mp e4
    clear e3 e4
    obtain ⟨go, yl⟩ := (wk i _ _ H' sb w').2 _ hd'
    refine .inr ⟨go, fun H2 => i + 1 ≤ ds.length ∧ ∃ cs2 acc, compM g t e (ds.drop (i + 1)) (wipeR ρ vs) cs2 acc = some (res, cs9) ∧ Wd K (O ++ [some D]) (cs2 ++ [some acc]) H2 ∧ EnvOk K (O ++ [some D]) H2 (wipeR ρ vs) (L2.wipe σ vs) ∧ Ch O H1 H2, fun H2 h2 => ⟨ds.length - (i + 1), by omega, rfl, h2⟩, fun x H3 hy => ?_⟩
    obtain ⟨c3, w3, r3⟩ := yl x H3 hy
    refine ⟨_, O ++ [some D], _, ds[i], ρ1, h1, r3, en'.ch c3, w3, fun σ4 en4 q4 => ⟨by rw [q4]; exact wipe_wipe σ vs, ?_⟩⟩
    refine ⟨ρ1, _, _, b, cs3, h2, en4, w3, fun H5 c5 w5 => ?_⟩
    cases b with
    | true =>
      obtain ⟨⟨r, cs4⟩, h6, e6⟩ := Option.bind_eq_some_iff.mp e5
      refine ⟨ρ1, _, cs3, r, cs4, h6, en4.ch c5, w5, fun v H6 c6 w6 rv => ?_⟩
      have rr := rv.deg
      obtain ⟨c, hc, ec⟩ := take_of w6
      dsimp only at e6
      rw [hcs2] at e6
      split at e6
      · rename_i d' c' hd2 hc2
        rw [hc] at hc2; cases hc2
        rw [hd2] at rr
        obtain ⟨hz, e7⟩ : c.length < sizeLine ∧ compM g t e (ds.drop (i + 1)) (wipeR ρ vs) (cs4.take O.length) (c ++ [d']) = some (res, cs9) := by
          by_cases hz : c.length < sizeLine
          · rw [if_pos hz] at e6; exact ⟨hz, e6⟩
          · rw [if_neg hz] at e6; cases e6
        obtain ⟨c0, vs0, k1, k2, k3⟩ := w6.cell O.length D (by simp)
        rw [hc] at k1; cases k1
        obtain ⟨w7, c7⟩ := w6.write (k := O.length) (a := D) (by simp) (k3.append (.cons (show Rp K (DL.hd _ H6) v d' from rr) .nil))
        refine ⟨vs0, k2, by rw [k3.length]; exact hz, hlt, cs4.take O.length, c ++ [d'], e7, ?_, ?_, ?_⟩
        · rw [← set_take (by rw [w6.len]; simp)]; exact w7
        · exact (((en'.ch c3).ch c5).ch c6).ch c7
        · exact (((ch'.ext ex0 c3).ext ex0 c5).ext ex0 c6).ext ex0 c7
      · cases e6
    | false =>
      obtain ⟨c, hc, ec⟩ := take_of w5
      have e6 : (match cs3[cs2.length]? with
        | some (some c) => compM g t e (ds.drop (i + 1)) (wipeR ρ vs) (cs3.take cs2.length) c
        | _ => none) = some (res, cs9) := e5
      rw [hcs2, hc] at e6
      refine ⟨hlt, cs3.take O.length, c, e6, by rw [← ec]; exact w5, (en'.ch c3).ch c5, (ch'.ext ex0 c3).ext ex0 c5⟩
  · have ei : i = ds.length := by omega
    subst ei
    rw [List.drop_length] at e3
    cases e3
    exact .inl ⟨(wk ds.length _ _ H' sb w').1 (Nat.le_refl _), p _ H' (c1.trans ch') w'.pop.1 ⟨D, rfl, hD0, w'⟩⟩
end
end DL
namespace DL
open PySem PySem.Spec PyProof.Rows L2
section
variable {X : Cx}
abbrev BlkX (X : Cx) (scope : Scope) (P : Cx → Prop) : Prop := ∀ (s : Shared) (H : Hp) (C : Addr) (cl : List (Str × Addr)) (fp : List Addr), P (X.blk s H scope (compEnvC scope cl C X.env) fp)
theorem xe_comp {elt tg iter : Expr} {ifs : List Expr} {scope : Scope} {own : List (Str × Nat)} {pos : Pos} {f : MI} {g : MG} {t : MT} {e : ME} (hc : X.calm = true) (hN : X.N.Nodup) (hi : XI X f tg iter) (ok : BlkOk X.N X.env.scope scope own)
    (hg : BlkX X scope fun Y => XG Y (own.map (·.2)) g tg) (ht : BlkX X scope fun Y => XTs Y t ifs) (he : BlkX X scope fun Y => XE Y e elt) (hs : ∀ x, foldedSetIterable iter X.env x = pure x := by intro _; rfl) :
    XE X (xComp f g t e (own.map (·.2))) (.ListComp elt [⟨tg, iter, ifs, 0⟩] scope pos) := (
    have hg' : ∀ (s : Shared) (H : Hp) (C : Addr) (cl : List (Str × Addr)) (fp : List Addr), PG (X.blk s H scope (compEnvC scope cl C X.env) fp) tg (tG X.K (own.map (·.2)) g) := hg
    have ht' : ∀ (s : Shared) (H : Hp) (C : Addr) (cl : List (Str × Addr)) (fp : List Addr), PTs (X.blk s H scope (compEnvC scope cl C X.env) fp) ifs (tXT X.K t) := ht
    have he' : ∀ (s : Shared) (H : Hp) (C : Addr) (cl : List (Str × Addr)) (fp : List Addr), PE (X.blk s H scope (compEnvC scope cl C X.env) fp) elt (tX X.K e) := he
    pe_weak (pe_lc hc hN hi ok hg' ht' he' hs) fun σ H Q h => tLc_of h)
theorem xs_setC {i : Nat} {y : Str} {py : Pos} {elt tg iter : Expr} {ifs : List Expr} {scope : Scope} {own : List (Str × Nat)} {pos spos : Pos} {f : MI} {g : MG} {t : MT} {e : ME} (hc : X.calm = true) (hN : X.N.Nodup) (hy : X.N[i]? = some y) (hyl : X.env.scope.names.lookup y = some .local)
    (hsw : swapsWith (.ListComp elt [⟨tg, iter, ifs, 0⟩] scope pos) (some (.Name y py)) spos.line X.env = pure true) (hi : XI X f tg iter) (ok : BlkOk X.N X.env.scope scope own)
    (hg : BlkX X scope fun Y => XG Y (own.map (·.2)) g tg) (ht : BlkX X scope fun Y => XTs Y t ifs) (he : BlkX X scope fun Y => XE Y e elt) (hs : ∀ x, foldedSetIterable iter X.env x = pure x := by intro _; rfl) :
    XS X (sSet i (xComp f g t e (own.map (·.2)))) (.Assign [.Name y py] (.ListComp elt [⟨tg, iter, ifs, 0⟩] scope pos) spos) :=
  (
    have hg' : ∀ (s : Shared) (H : Hp) (C : Addr) (cl : List (Str × Addr)) (fp : List Addr), PG (X.blk s H scope (compEnvC scope cl C X.env) fp) tg (tG X.K (own.map (·.2)) g) := hg
    have ht' : ∀ (s : Shared) (H : Hp) (C : Addr) (cl : List (Str × Addr)) (fp : List Addr), PTs (X.blk s H scope (compEnvC scope cl C X.env) fp) ifs (tXT X.K t) := ht
    have he' : ∀ (s : Shared) (H : Hp) (C : Addr) (cl : List (Str × Addr)) (fp : List Addr), PE (X.blk s H scope (compEnvC scope cl C X.env) fp) elt (tX X.K e) := he
    ps_weak (ps_setLc hc hN hy hyl hsw hi ok hg' ht' he' hs) fun D σ H h => tLc_of (tSet_of h))
theorem xs_ownC {i : Nat} {y : Str} {py : Pos} {elt tg iter : Expr} {ifs : List Expr} {scope : Scope} {own : List (Str × Nat)} {pos spos : Pos} {f : MI} {g : MG} {t : MT} {e : ME} (hc : X.calm = true) (hN : X.N.Nodup) (hy : X.N[i]? = some y) (hyl : X.env.scope.names.lookup y = some .local)
    (hsw : swapsWith (.ListComp elt [⟨tg, iter, ifs, 0⟩] scope pos) (some (.Name y py)) spos.line X.env = pure true) (hi : XI X f tg iter) (ok : BlkOk X.N X.env.scope scope own)
    (hg : BlkX X scope fun Y => XG Y (own.map (·.2)) g tg) (ht : BlkX X scope fun Y => XTs Y t ifs) (he : BlkX X scope fun Y => XE Y e elt) (hs : ∀ x, foldedSetIterable iter X.env x = pure x := by intro _; rfl) :
    XS X (sOwn i (xComp f g t e (own.map (·.2)))) (.Assign [.Name y py] (.ListComp elt [⟨tg, iter, ifs, 0⟩] scope pos) spos) :=
  (
    have hg' : ∀ (s : Shared) (H : Hp) (C : Addr) (cl : List (Str × Addr)) (fp : List Addr), PG (X.blk s H scope (compEnvC scope cl C X.env) fp) tg (tG X.K (own.map (·.2)) g) := hg
    have ht' : ∀ (s : Shared) (H : Hp) (C : Addr) (cl : List (Str × Addr)) (fp : List Addr), PTs (X.blk s H scope (compEnvC scope cl C X.env) fp) ifs (tXT X.K t) := ht
    have he' : ∀ (s : Shared) (H : Hp) (C : Addr) (cl : List (Str × Addr)) (fp : List Addr), PE (X.blk s H scope (compEnvC scope cl C X.env) fp) elt (tX X.K e) := he
    ps_weak (ps_setLc hc hN hy hyl hsw hi ok hg' ht' he' hs) fun D σ H h => tLc_of (tOwn_of h))
end

/-! ### defs -/
abbrev MF := List Rv → Cs → Option (Rv × Cs)
/-- the def at f does as m says (m: the arguments, the cells) -/
structure FnD (P : Program) (w : World) (K : PySem.W.Frag) (mg : Str → Option Value) (base : Heap) (k : Nat) (f : Addr) (fd : FuncData) (ps : List Str) (m : MF) : Prop where
  run : ∀ (A : Around) (outer : List Env) (s : Shared) (H : Hp) (args : Args) (us : List Value) (vs : List V) (Q : VK) (rs : List Rv) (O : List (Option Addr)) (cs : Cs) (r : Rv) (cs' : Cs),
    A.guards = some [] → base.NoDigits → Room k A → Env0 P w K mg base A outer s H → BindsTo s fd args (ps.zip us) → Vals vs us → vs.length = ps.length → Wd K O cs H → ArRs K O H rs vs → m rs cs = some (r, cs') → PostX K O H r cs' Q →
    codeAny (model P w) A (.call (.ref f) args) (CR CX0 outer P w H s Q E0) s
theorem FnD.mono {P : Program} {w : World} {K : PySem.W.Frag} {mg : Str → Option Value} {base : Heap} {j k : Nat} {f : Addr} {fd : FuncData} {ps : List Str} {m : MF} (F : FnD P w K mg base j f fd ps m) (h : j ≤ k) : FnD P w K mg base k f fd ps m :=
  ⟨fun A outer s H args us vs Q rs O cs r cs' hg hn hr => F.run A outer s H args us vs Q rs O cs r cs' hg hn (hr.mono h)⟩
theorem FnD.imp {P : Program} {w : World} {K : PySem.W.Frag} {mg : Str → Option Value} {base : Heap} {k : Nat} {f : Addr} {fd : FuncData} {ps : List Str} {m m' : MF} (F : FnD P w K mg base k f fd ps m) (h : ∀ rs cs r, m' rs cs = some r → m rs cs = some r) : FnD P w K mg base k f fd ps m' :=
  ⟨fun A outer s H args us vs Q rs O cs r cs' hg hn hr e b v l wd a em p => F.run A outer s H args us vs Q rs O cs r cs' hg hn hr e b v l wd a (h _ _ _ em) p⟩
/-- a def's mirror from its body's -/
def fnM (n : Nat) (b : MS) : MF := fun rs cs => (b cs.length (rs.map some ++ List.replicate (n - rs.length) none) cs).bind fun o => match o with
  | .rt (.dat d) cs' => some (.dat d, cs'.take cs.length)
  | .rt (.ft d) cs' => some (.ft d, cs'.take cs.length)
  | .rt (.own k) cs' => if cs.length ≤ k then (match cs'[k]? with
    | some (some c) => some (.fr c, cs'.take cs.length)
    | _ => none) else none
  | .nx _ cs' => some (.dat .none, cs'.take cs.length)
  | _ => none
theorem live_take {O : List (Option Addr)} {n : Nat} {a : Addr} (h : a ∈ live (O.take n)) : a ∈ live O := by
  obtain ⟨i, q⟩ := mem_live.mp h
  have hi : i < n := by
    have := (List.getElem?_eq_some_iff.mp q).1
    simp at this; omega
  rw [List.getElem?_take_of_lt hi] at q
  exact mem_live.mpr ⟨i, q⟩
theorem Wd.take {K : PySem.W.Frag} {O : List (Option Addr)} {cs : Cs} {H : Hp} (w : Wd K O cs H) (n : Nat) : Wd K (O.take n) (cs.take n) H := by
  have sb : ∀ a o, hd O H a = some o → hd (O.take n) H a = some o := fun a o h => by
    obtain ⟨m, e⟩ := hd_some h
    exact hd_of (fun z => m (live_take z)) e
  have get : ∀ {α : Type} {l : List α} {i : Nat} {x : α}, (l.take n)[i]? = some x → i < n ∧ l[i]? = some x := fun {α l i x} q => by
    have hi : i < n := by
      have := (List.getElem?_eq_some_iff.mp q).1
      simp at this; omega
    rw [List.getElem?_take_of_lt hi] at q
    exact ⟨hi, q⟩
  refine ⟨by simp [w.len], fun i j a h1 h2 => w.inj i j a (get h1).2 (get h2).2, fun i a h => ?_, fun i h => ?_⟩
  · obtain ⟨hi, q⟩ := get h
    obtain ⟨c, vs, h1, h2, h3⟩ := w.cell i a q
    exact ⟨c, vs, by rw [List.getElem?_take_of_lt hi]; exact h1, h2, h3.mono sb⟩
  · obtain ⟨hi, q⟩ := get h
    rw [List.getElem?_take_of_lt hi]; exact w.ded i q
theorem Ext.take_eq {n0 : Nat} {O O' : List (Option Addr)} {H : Hp} (e : Ext n0 O O' H) (h : n0 = O.length) : O'.take n0 = O := by
  apply List.ext_getElem?
  intro i
  by_cases hi : i < n0
  · rw [List.getElem?_take_of_lt hi]; exact e.pre i hi
  · rw [List.getElem?_eq_none (by simp; omega), List.getElem?_eq_none (by omega)]
/-- the result of a body, for the caller -/
theorem body_end {K : PySem.W.Frag} {O O' : List (Option Addr)} {cs cs' : Cs} {H H' : Hp} {r r0 : Rv} {v : V} (w : Wd K O cs H) (ex : Ext cs.length O O' H) (c : Ch O H H') (w' : Wd K O' cs' H') (ar : ArR K O' r0 v H')
    (h : (∃ d, r0 = .dat d ∧ r = .dat d) ∨ ∃ k l, r0 = .own k ∧ cs.length ≤ k ∧ cs'[k]? = some (some l) ∧ r = .fr l) : Wd K O (cs'.take cs.length) H' ∧ RvR K O H (cs'.take cs.length) r v H' := by
  have eO : O'.take cs.length = O := ex.take_eq w.len
  have w2 := w'.take cs.length
  rw [eO] at w2
  have sb : ∀ a o, hd O' H' a = some o → hd O H' a = some o := fun a o q => by
    obtain ⟨m, e⟩ := hd_some q
    exact hd_of (fun z => m (live_take (n := cs.length) (by rw [eO]; exact z))) e
  refine ⟨w2, ?_⟩
  rcases h with ⟨d, rfl, rfl⟩ | ⟨k, l, rfl, hk, hl, rfl⟩
  · exact Rp.mono sb ar
  · obtain ⟨p, rfl, hp⟩ := ar
    obtain ⟨l', vs, h1, h2, h3⟩ := w'.cell k p hp
    rw [hl] at h1; cases h1
    have np : p ∉ live O := fun z => by
      obtain ⟨i, q⟩ := mem_live.mp z
      have hi : i < cs.length := by rw [w.len]; exact (List.getElem?_eq_some_iff.mp q).1
      have q' : O'[i]? = some (some p) := by rw [ex.pre i hi]; exact q
      have := w'.inj i k p q' hp
      omega
    have hn : H p = none := by
      rcases ex.sub p (mem_live.mpr ⟨k, hp⟩) with z | z
      · exact absurd z np
      · exact z
    refine ⟨p, rfl, hn, ?_⟩
    have hlen : (cs'.take cs.length).length = O.length := w2.len
    have sp : ∀ {i : Nat} {x : Option Addr}, (O ++ [some p])[i]? = some x → (i < O.length ∧ O[i]? = some x ∧ O'[i]? = some x) ∨ (i = O.length ∧ x = some p) := fun {i x} q => by
      by_cases hi : i < O.length
      · rw [List.getElem?_append_left hi] at q
        exact .inl ⟨hi, q, by rw [ex.pre i (by rw [w.len]; exact hi)]; exact q⟩
      · rw [List.getElem?_append_right (by omega)] at q
        have h0 : i - O.length = 0 := by
          have := (List.getElem?_eq_some_iff.mp q).1
          simp at this; omega
        rw [h0] at q
        simp at q
        exact .inr ⟨by omega, q.symm⟩
    have sb2 : ∀ a o, hd O' H' a = some o → hd (O ++ [some p]) H' a = some o := fun a o q => by
      obtain ⟨m, e⟩ := hd_some q
      refine hd_of (fun z => ?_) e
      obtain ⟨i, q2⟩ := mem_live.mp z
      rcases sp q2 with ⟨_, _, q3⟩ | ⟨_, q3⟩
      · exact m (mem_live.mpr ⟨i, q3⟩)
      · cases q3; exact m (mem_live.mpr ⟨k, hp⟩)
    refine ⟨by simp [hlen], fun i j a a1 a2 => ?_, fun i a a1 => ?_, fun i a1 => ?_⟩
    · rcases sp a1 with ⟨i1, i2, _⟩ | ⟨i1, i2⟩ <;> rcases sp a2 with ⟨j1, j2, _⟩ | ⟨j1, j2⟩
      · exact w.inj i j a i2 j2
      · cases j2; exact absurd (mem_live.mpr ⟨i, i2⟩) np
      · cases i2; exact absurd (mem_live.mpr ⟨j, j2⟩) np
      · omega
    · rcases sp a1 with ⟨i1, i2, i3⟩ | ⟨i1, i2⟩
      · obtain ⟨c', vs', q1, q2, q3⟩ := w'.cell i a i3
        refine ⟨c', vs', ?_, q2, q3.mono sb2⟩
        rw [List.getElem?_append_left (by rw [hlen]; exact i1), List.getElem?_take_of_lt (by rw [w.len]; exact i1)]
        exact q1
      · cases i2
        refine ⟨l, vs, ?_, h2, h3.mono sb2⟩
        rw [i1, ← hlen]; simp
    · rcases sp a1 with ⟨i1, i2, i3⟩ | ⟨i1, i2⟩
      · rw [List.getElem?_append_left (by rw [hlen]; exact i1)]
        exact w2.ded i i2
      · cases i2
theorem start_env {K : PySem.W.Frag} {O : List (Option Addr)} {H : Hp} {N : List Str} : ∀ {rs : List Rv} {vs : List V}, ArRs K O H rs vs → EnvOk K O H (rs.map some ++ List.replicate (N.length - rs.length) none) (L2.start N vs) := fun {rs vs} h => by
  have hl := h.length
  unfold L2.start
  refine ⟨by simp [hl], fun i r hi => ?_⟩
  by_cases c : i < rs.length
  · rw [List.getElem?_append_left (by simpa using c), List.getElem?_map] at hi
    rw [List.getElem?_append_left (by simp; omega), List.getElem?_map]
    have : ∀ {rs : List Rv} {vs : List V} {i : Nat} {r : Rv}, ArRs K O H rs vs → rs[i]? = some r → ∃ v, vs[i]? = some v ∧ ArR K O r v H := by
      intro rs
      induction rs with
      | nil => intro vs i r _ e; simp at e
      | cons r0 rs ih =>
        intro vs i r a e
        cases vs with
        | nil => exact a.elim
        | cons v vs =>
          cases i with
          | zero => simp at e; subst e; exact ⟨v, rfl, a.1⟩
          | succ i =>
            obtain ⟨u, h1, h2⟩ := ih a.2 (by simpa using e)
            exact ⟨u, by simpa using h1, h2⟩
    cases q : rs[i]? with
    | none => rw [q] at hi; cases hi
    | some r1 =>
      rw [q] at hi
      cases hi
      obtain ⟨v, h1, h2⟩ := this h q
      exact ⟨v, by rw [h1]; rfl, h2⟩
  · rw [List.getElem?_append_right (by simpa using c), List.getElem?_replicate] at hi
    split at hi <;> cases hi
/-- the context of a body -/
abbrev cxD (P : Program) (w : World) (K : PySem.W.Frag) (mg : Str → Option Value) (base : Heap) (N : List Str) (qual : Str) (scope : Scope) (f : Addr) (cdv : Value) (A : Around) (outer : List Env) (s : Shared) (H : Hp) : Cx :=
  (cxOf CX0 P w K mg base N qual scope f cdv A outer s H E0).nox
theorem fnD_of {P : Program} {w : World} {K : PySem.W.Frag} {mg : Str → Option Value} {base : Heap} {k : Nat} {f : Addr} {x qual : Str} {params : Arguments} {body : List Stmt} {scope : Scope} {dvs : List V} {kws : List (Str × V)} {fd : FuncData} {N ps : List Str} {b : MS}
    (F : FunD K x qual params body scope dvs kws f fd) (S : FnScope N ps scope)
    (hb : ∀ (cdv : Value) (A : Around) (outer : List Env) (s : Shared) (H : Hp), Room k (A.deeper (envOfC qual scope s.heap.objs.size f cdv)) → Rm (cxD P w K mg base N qual scope f cdv A outer s H) → XSs (cxD P w K mg base N qual scope f cdv A outer s H) b body) :
    FnD P w K mg base (k + 1) f fd ps (fnM N.length b) := by
  obtain ⟨oc, od, dV, kV, doc, pm, an, cdv, ct, osl, rfl, lk, hcd, _, _⟩ := F.ex
  refine ⟨fun A outer s H args us vs Q rs O cs r cs' hg hnd hr e0 hbd rv hl wd ar em p => ?_⟩
  have KX : K.In s.heap := e0.mod.kin.keeps fun a o e => (e0.bs a o e).1
  have lim : s.heap.NoLimit := e0.mod.nolimit.keeps fun a o e => (e0.bs a o e).1
  refine codeAny_call_function hr.depth (KX _ _ lk) rfl S.co S.gen rfl (PySem.W.codeRec_of KX hcd) (hbd _ _ _ _ ?_)
  refine wpAny_newFunctionEnv_cells S.kind (fun y hy => ?_) fun env he s1 xx => ?_
  · rcases S.par y.1 (List.of_mem_zip hy).1 with q | q
    · exact .inl q
    · exact .inr ⟨q, PySem.W.cellsFrom_some _ _ _ (.inl q)⟩
  · subst he
    refine ⟨lim.keeps xx.toInCall.keep, codeAny_func ?_⟩
    have I := inv_start (CX := CX0) (E := E0) (qual := qual) (f := f) (cd := cdv) (outer := outer) S hr.hd e0 hl rv xx
    have hr' := hr.deeper (envOfC qual scope s.heap.objs.size f cdv)
    have rm : Rm (cxD P w K mg base N qual scope f cdv A outer s H) := ⟨hr.hd, by
      have := hr'.un
      show (A.deeper (envOfC qual scope s.heap.objs.size f cdv)).units + 200 < cLine
      omega, by show A.guards = some []; exact hg, rfl, hnd⟩
    have hbody := PSs.nox (hb cdv A outer s H hr' rm)
    unfold fnM at em
    obtain ⟨o, h1, h2⟩ := Option.bind_eq_some_iff.mp em
    have hpost : PostS K cs.length O H o { nx := fun _ H' => Q .non H', rt := Q } := by
      cases o with
      | rt r0 cs1 =>
        intro v O' H' ex c w' ar'
        cases r0 with
        | dat d =>
          cases h2
          obtain ⟨a1, a2⟩ := body_end (r := .dat d) (r0 := .dat d) wd ex c w' ar' (.inl ⟨d, rfl, rfl⟩)
          exact p v H' c a1 a2
        | own j =>
          have h3 : (if cs.length ≤ j then (match cs1[j]? with
            | some (some c) => some (Rv.fr c, cs1.take cs.length)
            | _ => none) else none) = some (r, cs') := h2
          by_cases hj : cs.length ≤ j
          · rw [if_pos hj] at h3
            split at h3
            · rename_i l hl'
              cases h3
              obtain ⟨a1, a2⟩ := body_end (r := .fr l) (r0 := .own j) wd ex c w' ar' (.inr ⟨j, l, rfl, hj, hl', rfl⟩)
              exact p v H' c a1 a2
            · cases h3
          · rw [if_neg hj] at h3; cases h3
        | fr l => cases h2
        | exn nm d => cases h2
        | ft d =>
          cases h2
          obtain ⟨z1, as, z2, z3, z4, z5⟩ := ar'
          have eO : O'.take cs.length = O := ex.take_eq wd.len
          have w2 := w'.take cs.length
          rw [eO] at w2
          have sb : ∀ a o, hd O' H' a = some o → hd O H' a = some o := fun a o q => by
            obtain ⟨m, e⟩ := hd_some q
            exact hd_of (fun z => m (live_take (n := cs.length) (by rw [eO]; exact z))) e
          refine p v H' c w2 ⟨z1.mono sb, as, z2.mono sb, z3, fun a ha => ?_, z5.mono sb⟩
          obtain ⟨⟨y1, y2⟩, y3⟩ := z4 a ha
          have nl : a ∉ live O := fun z => by
            obtain ⟨i, q⟩ := mem_live.mp z
            exact y2 i (by rw [wd.len]; exact (List.getElem?_eq_some_iff.mp q).1) q
          exact ⟨y1 nl, nl⟩
        | gr d k n => cases h2
      | nx ρ1 cs1 =>
        cases h2
        intro σ' O' H' ex c en' w'
        obtain ⟨a1, a2⟩ := body_end (r0 := .dat .none) (r := .dat .none) (v := .non) wd ex c w' .non (.inl ⟨_, rfl, rfl⟩)
        exact p .non H' c a1 a2
      | bk _ _ => cases h2
      | ct _ _ => cases h2
    refine wpAny_mono (hbody.run [] s1 (L2.start N vs) H { nx := fun _ H' => Q .non H', rt := Q } I ⟨cs.length, _, O, cs, o, h1, by rw [wd.len]; exact Nat.le_refl _, start_env ar, wd, hpost⟩) (fun fl s' hs => ?_) fun e s' hs => hs
    cases fl with
    | ret u =>
      obtain ⟨v, σ', H', J, rv', q⟩ := hs
      exact ⟨v, H', J.os, J.bare, J.base, J.hok, rv', q⟩
    | next =>
      obtain ⟨σ', H', J, q⟩ := hs
      exact ⟨V.non, H', J.os, J.bare, J.base, J.hok, rfl, q⟩
    | brk =>
      obtain ⟨_, _, _, q⟩ := hs
      exact q.elim
    | cont =>
      obtain ⟨_, _, _, q⟩ := hs
      exact q.elim
/-! calls -/
section
variable {X : Cx}
def mCallF (n : Nat) (m : MF) (fa : MA) : ME := fun ρ cs => (fa ρ cs).bind fun p => if p.1.length = n then m p.1 p.2 else none
theorem fnD_call {k : Nat} {f : Addr} {fd : FuncData} {ps : List Str} {m : MF} {pins : List (Addr × Obj)} {σ : L2.St} {H : Hp} {s : Shared} {Q : VK} {args : Args} {us : List Value} {vs : List V} {rs : List Rv} {O : List (Option Addr)} {cs cs' : Cs} {r : Rv} (F : FnD X.prog X.w X.K X.mg X.base k f fd ps m) (hr : Room k X.A) (hg : X.A.guards = some []) (hnd : X.base.NoDigits)
    (I : Inv X pins σ H s) (hb : BindsTo s fd args (ps.zip us)) (rv : Vals vs us) (hl : vs.length = ps.length) (wd : Wd X.K O cs H) (ar : ArRs X.K O H rs vs) (em : m rs cs = some (r, cs')) (p : PostX X.K O H r cs' Q) :
    codeAny (model X.prog X.w) X.A (.call (.ref f) args) (fun r s' => match r with
      | .ok (.ret u) => EP X pins σ Q u s'
      | .ok _ => False
      | .error e => X.xe e s') s := by
  refine codeAny_mono (F.run X.A X.stack s H args us vs Q rs O cs r cs' hg hnd hr I.env0 hb rv hl wd ar em p) fun res s' hq => ?_
  cases res with
  | error e => exact hq.elim
  | ok fl =>
    cases fl with
    | ret u => exact I.after hq
    | next => exact hq
    | brk => exact hq
    | cont => exact hq
end
end DL
namespace DL
open PySem PySem.Spec PyProof.Rows L2
def ArgP (K : PySem.W.Frag) (O : List (Option Addr)) (H : Hp) (cs1 : Cs) (rs : List Rv) (vs : List V) (H' : Hp) : Prop := Ch O H H' ∧ Wd K O cs1 H' ∧ ArRs K O H' rs vs
section
variable {X : Cx}
theorem ite_none {α : Type} {c : Prop} [Decidable c] {a : Option α} {b : α} (h : (if c then a else none) = some b) : c ∧ a = some b := by
  split at h
  · exact ⟨by assumption, h⟩
  · cases h
theorem call_end {k : Nat} {f : Addr} {fd : FuncData} {ps : List Str} {m : MF} {pins : List (Addr × Obj)} {σ : L2.St} {H : Hp} {s : Shared} {Q : VK} {us : List Value} {kw : List (Str × Value)} {us2 : List Value} {vs : List V} {rs : List Rv} {O : List (Option Addr)} {cs cs' : Cs} {r : Rv} (F : FnD X.prog X.w X.K X.mg X.base k f fd ps m) (hr : Room k X.A) (hg : X.A.guards = some []) (hnd : X.base.NoDigits)
    (I : Inv X pins σ H s) (hb : BindsTo s fd ⟨us, kw⟩ (ps.zip us2)) (rv : Vals vs us2) (hl : rs.length = ps.length) (wd : Wd X.K O cs H) (ar : ArRs X.K O H rs vs) (em : m rs cs = some (r, cs')) (p : PostX X.K O H r cs' Q) :
    wpAny (model X.prog X.w) X.A (call (.ref f) us kw) (EP X pins σ Q) X.xe s := by
  refine wpAny_call (codeAny_mono (fnD_call F hr hg hnd I hb rv (by rw [← ar.length]; exact hl) wd ar em p) fun r s' hq => ?_)
  cases r with
  | error e => exact hq
  | ok fl => cases fl with
    | ret u => exact hq
    | next => exact hq
    | brk => exact hq
    | cont => exact hq
theorem xe_call {k : Nat} {f : Addr} {fd : FuncData} {ps : List Str} {m : MF} {x : Str} {e : Expr} {es : List Expr} {fa : MA} {p pos : Pos} (F : FnD X.prog X.w X.K X.mg X.base k f fd ps m) (hr : Room k X.A) (rm : Rm X) (hg : Gl X x) (hm : X.mg x = some (.ref f)) (hk : PySem.W.keepIn X.K (.ref f) = true)
    (hb : Binds X.K fd ps []) (ha : XA X fa (e :: es)) (hdb : (x == ("__debug__" : Str)) = false := by decide)
    (he : starEach (e :: es) X.env = (false, eval e X.env) :: starEach es X.env := by rfl) (hpl : (backTo pos (starEach es X.env)).any (·.1) = false := by rfl) : XE X (mCallF ps.length m fa) (.Call (.Name x p) (e :: es) [] pos) := by
  refine ⟨fun pins s σ H Q I ⟨ρ, O, cs, r, cs', e0, en, w, pq⟩ => ?_⟩
  obtain ⟨⟨rs, cs1⟩, h1, h2⟩ := Option.bind_eq_some_iff.mp e0
  obtain ⟨hl, em⟩ := ite_none h2
  refine wpAny_Call_Name_kw (ld_glob I hg hm ?_ hdb)
  have hrun := ha.run pos pins s σ H (ArgP X.K O H cs1 rs) I ⟨ρ, O, cs, rs, cs1, h1, en, w, fun vs H' c w' ra => ⟨c, w', ra⟩⟩
  refine PySem.W.callWith_K (h₀ := X.base) I.ok.mod.kin hk (thn hrun fun us s1 hus => ?_) he hpl
  obtain ⟨vs, H1, I1, rv, c1, w1, ra⟩ := hus
  refine ⟨I1.kIn, ?_⟩
  have hb' := hb s1 us I1.kIn (by rw [List.append_nil, ← rv.length, ← ra.length]; exact hl)
  rw [List.append_nil] at hb'
  exact call_end F hr rm.gd rm.nd I1 hb' rv hl w1 ra em (pq.step c1 w1)
theorem xe_call0 {k : Nat} {f : Addr} {fd : FuncData} {ps : List Str} {m : MF} {x : Str} {p pos : Pos} (F : FnD X.prog X.w X.K X.mg X.base k f fd ps m) (hr : Room k X.A) (rm : Rm X) (hg : Gl X x) (hm : X.mg x = some (.ref f)) (hk : PySem.W.keepIn X.K (.ref f) = true)
    (hb : Binds X.K fd ps []) (hdb : (x == ("__debug__" : Str)) = false := by decide) : XE X (mCallF ps.length m aNil) (.Call (.Name x p) [] [] pos) := by
  refine ⟨fun pins s σ H Q I ⟨ρ, O, cs, r, cs', e0, en, w, pq⟩ => ?_⟩
  obtain ⟨⟨rs, cs1⟩, h1, h2⟩ := Option.bind_eq_some_iff.mp e0
  cases h1
  obtain ⟨hl, em⟩ := ite_none h2
  refine wpAny_Call_Name_kw (ld_glob I hg hm ?_ hdb)
  have hb' := hb s [] I.kIn (by simpa using hl)
  exact PySem.W.callWith_K0 I.kIn hk (call_end F hr rm.gd rm.nd I hb' .nil hl w trivial em pq)
/-! keywords -/
def pick {α : Type} (π : List Nat) (l : List α) : List α := π.filterMap fun i => l[i]?
theorem pick_vals {π : List Nat} {vs : List V} {us : List Value} (h : Vals vs us) : Vals (pick π vs) (pick π us) := by
  induction π with
  | nil => exact .nil
  | cons i π ih =>
    unfold pick at ih ⊢
    rw [List.filterMap_cons, List.filterMap_cons]
    cases q : vs[i]? with
    | none => rw [h.none_of q]; exact ih
    | some v =>
      obtain ⟨u, h1, h2⟩ := h.get q
      rw [h1]
      exact .cons h2 ih
theorem ArRs.get {K : PySem.W.Frag} {O : List (Option Addr)} {H : Hp} : ∀ {rs : List Rv} {vs : List V}, ArRs K O H rs vs → ∀ i : Nat, (rs[i]? = none ∧ vs[i]? = none) ∨ ∃ r v, rs[i]? = some r ∧ vs[i]? = some v ∧ ArR K O r v H
  | [], [], _, i => .inl ⟨by simp, by simp⟩
  | r :: rs, v :: vs, h, 0 => .inr ⟨r, v, rfl, rfl, h.1⟩
  | r :: rs, v :: vs, h, i + 1 => by
    rcases ArRs.get h.2 i with ⟨a, b⟩ | ⟨a, b, c, d, e⟩
    · exact .inl ⟨by simpa using a, by simpa using b⟩
    · exact .inr ⟨a, b, by simpa using c, by simpa using d, e⟩
  | [], _ :: _, h, _ => h.elim
  | _ :: _, [], h, _ => h.elim
theorem pick_ar {K : PySem.W.Frag} {O : List (Option Addr)} {H : Hp} {π : List Nat} {rs : List Rv} {vs : List V} (h : ArRs K O H rs vs) : ArRs K O H (pick π rs) (pick π vs) := by
  induction π with
  | nil => exact trivial
  | cons i π ih =>
    unfold pick at ih ⊢
    rw [List.filterMap_cons, List.filterMap_cons]
    rcases h.get i with ⟨a, b⟩ | ⟨r, v, a, b, c⟩
    · rw [a, b]; exact ih
    · rw [a, b]; exact ⟨c, ih⟩
theorem ArRs.append {K : PySem.W.Frag} {O : List (Option Addr)} {H : Hp} : ∀ {rs ss : List Rv} {vs us : List V}, ArRs K O H rs vs → ArRs K O H ss us → ArRs K O H (rs ++ ss) (vs ++ us)
  | [], _, [], _, _, b => b
  | _ :: _, _, _ :: _, _, a, b => ⟨a.1, ArRs.append a.2 b⟩
  | [], _, _ :: _, _, a, _ => a.elim
  | _ :: _, _, [], _, a, _ => a.elim
/-- us by position, then ks: in the parameters' order by π -/
structure KwB (K : PySem.W.Frag) (fd : FuncData) (ps : List Str) (n : Nat) (ks : List Str) (π : List Nat) : Prop where
  to : ∀ (s : Shared) (us ws : List Value), K.In s.heap → us.length = n → ws.length = ks.length → BindsTo s fd ⟨us, ks.zip ws⟩ (ps.zip (pick π (us ++ ws)))
def XK (X : Cx) (f : MA) (kws : List Keyword) : Prop := PK X kws (tXA X.K f)
theorem pk_weak {es : List Keyword} {t t' : TA} (h : PK X es t) (w : ∀ σ H Q, t' σ H Q → t σ H Q) : PK X es t' := ⟨fun pos pins s σ H Q I q => h.run pos pins s σ H Q I (w _ _ _ q)⟩
theorem xk_nil : XK X aNil [] := pk_weak pk_nil fun σ H Q ⟨ρ, O, cs, rs, cs', e, en, w, p⟩ => by
  cases e
  exact p [] H .refl w trivial
theorem xk_cons {nm : Option Str} {e : Expr} {kpos : Pos} {kws : List Keyword} {fa : ME} {fr : MA} (ha : XE X fa e) (hr : XK X fr kws) : XK X (aCons fa fr) (⟨nm, e, kpos⟩ :: kws) := pk_weak (pk_cons ha hr) fun σ H Q h => tCons_of h
def mCallK (n k q : Nat) (π : List Nat) (m : MF) (fa fk : MA) : ME := fun ρ cs => (fa ρ cs).bind fun p => (fk ρ p.2).bind fun z => if p.1.length = n ∧ z.1.length = k ∧ (pick π (p.1 ++ z.1)).length = q then m (pick π (p.1 ++ z.1)) z.2 else none
theorem xe_callK {k n : Nat} {ks : List Str} {π : List Nat} {f : Addr} {fd : FuncData} {ps : List Str} {m : MF} {x : Str} {e : Expr} {es : List Expr} {kws : List Keyword} {fa fk : MA} {p pos : Pos} (F : FnD X.prog X.w X.K X.mg X.base k f fd ps m) (hr : Room k X.A) (rm : Rm X) (hg : Gl X x) (hm : X.mg x = some (.ref f)) (hk : PySem.W.keepIn X.K (.ref f) = true)
    (hb : KwB X.K fd ps n ks π) (ha : XA X fa (e :: es)) (hkw : XK X fk kws) (hall : (backToKw pos (keywordEach kws X.env)).all (·.1.isSome) = true := by rfl) (hks : (backToKw pos (keywordEach kws X.env)).filterMap (·.1) = ks := by rfl)
    (hdb : (x == ("__debug__" : Str)) = false := by decide) (he : starEach (e :: es) X.env = (false, eval e X.env) :: starEach es X.env := by rfl)
    (hpl : ((backTo pos (starEach (e :: es) X.env)).any (·.1) || (backToKw pos (keywordEach kws X.env)).any (·.1.isNone)) = false := by rfl) : XE X (mCallK n ks.length ps.length π m fa fk) (.Call (.Name x p) (e :: es) kws pos) := by
  refine ⟨fun pins s σ H Q I ⟨ρ, O, cs, r, cs', e0, en, w, pq⟩ => ?_⟩
  obtain ⟨⟨rs, cs1⟩, h1, e1⟩ := Option.bind_eq_some_iff.mp e0
  obtain ⟨⟨zs, cs2⟩, h2, e2⟩ := Option.bind_eq_some_iff.mp e1
  obtain ⟨hl, em⟩ := ite_none e2
  refine wpAny_Call_Name_kw (ld_glob I hg hm ?_ hdb)
  have hrun := ha.run pos pins s σ H (ArgP X.K O H cs1 rs) I ⟨ρ, O, cs, rs, cs1, h1, en, w, fun vs H' c w' ra => ⟨c, w', ra⟩⟩
  refine PySem.W.callWith_KW (h₀ := X.base) I.ok.mod.kin hk hall (thn hrun fun us s1 hus => ?_) hpl he
  obtain ⟨vs, H1, I1, rv, c1, w1, ra⟩ := hus
  have hrun2 := hkw.run pos pins s1 σ H1 (ArgP X.K O H1 cs2 zs) I1 ⟨ρ, O, cs1, zs, cs2, h2, en.ch c1, w1, fun vs H' c w' ra => ⟨c, w', ra⟩⟩
  refine thn hrun2 fun ws s2 hws => ?_
  obtain ⟨ys, H2, I2, rz, c2, w2, rb⟩ := hws
  refine ⟨I2.kIn, ?_⟩
  rw [hks]
  have hb' := hb.to s2 us ws I2.kIn (by rw [← rv.length, ← ra.length]; exact hl.1) (by rw [← rz.length, ← rb.length]; exact hl.2.1)
  exact call_end F hr rm.gd rm.nd I2 hb' (pick_vals (rv.append rz)) hl.2.2 w2 (pick_ar ((ra.ch c2).append rb)) em (pq.step (c1.trans c2) w2)
theorem xe_callK0 {k : Nat} {ks : List Str} {π : List Nat} {f : Addr} {fd : FuncData} {ps : List Str} {m : MF} {x : Str} {kws : List Keyword} {fk : MA} {p pos : Pos} (F : FnD X.prog X.w X.K X.mg X.base k f fd ps m) (hr : Room k X.A) (rm : Rm X) (hg : Gl X x) (hm : X.mg x = some (.ref f)) (hk : PySem.W.keepIn X.K (.ref f) = true)
    (hb : KwB X.K fd ps 0 ks π) (hkw : XK X fk kws) (hall : (backToKw pos (keywordEach kws X.env)).all (·.1.isSome) = true := by rfl) (hks : (backToKw pos (keywordEach kws X.env)).filterMap (·.1) = ks := by rfl)
    (hdb : (x == ("__debug__" : Str)) = false := by decide)
    (hpl : ((backTo pos (starEach [] X.env)).any (·.1) || (backToKw pos (keywordEach kws X.env)).any (·.1.isNone)) = false := by rfl) : XE X (mCallK 0 ks.length ps.length π m aNil fk) (.Call (.Name x p) [] kws pos) := by
  refine ⟨fun pins s σ H Q I ⟨ρ, O, cs, r, cs', e0, en, w, pq⟩ => ?_⟩
  obtain ⟨⟨rs, cs1⟩, h1, e1⟩ := Option.bind_eq_some_iff.mp e0
  cases h1
  obtain ⟨⟨zs, cs2⟩, h2, e2⟩ := Option.bind_eq_some_iff.mp e1
  obtain ⟨hl, em⟩ := ite_none e2
  refine wpAny_Call_Name_kw (ld_glob I hg hm ?_ hdb)
  have hrun2 := hkw.run pos pins s σ H (ArgP X.K O H cs2 zs) I ⟨ρ, O, cs, zs, cs2, h2, en, w, fun vs H' c w' ra => ⟨c, w', ra⟩⟩
  refine PySem.W.callWith_KW0 (h₀ := X.base) I.ok.mod.kin hk hall (thn hrun2 fun ws s2 hws => ?_) hpl
  obtain ⟨ys, H2, I2, rz, c2, w2, rb⟩ := hws
  refine ⟨I2.kIn, ?_⟩
  rw [hks]
  have hb' := hb.to s2 [] ws I2.kIn rfl (by rw [← rz.length, ← rb.length]; exact hl.2.1)
  exact call_end F hr rm.gd rm.nd I2 hb' (pick_vals (π := π) rz) hl.2.2 w2 (pick_ar (π := π) rb) em (pq.step c2 w2)
end
end DL
namespace DL
open PySem PySem.Spec PyProof.Rows L2
section
variable {X : Cx}
/-! isinstance -/
def tyN : D → String
  | .none => "NoneType"
  | .bool _ => "bool"
  | .int _ => "int"
  | .str _ => "str"
  | .list _ => "list"
  | .tuple _ => "tuple"
  | .dict kvs => if isFn kvs = true then "function" else "dict"
/-- a value's type, a def's object too -/
def TyF (K : PySem.W.Frag) (H : Hp) (v : V) (t : Value) : Prop := TyX K H v t ∨ ∃ (f : Addr) (o : Obj), v = .ref f ∧ t = .type "function" ∧ K.lookup f = some o ∧ o.cls = .type "function"
theorem kit_ofF {pins : List (Addr × Obj)} {σ : L2.St} {H : Hp} {s : Shared} {x : V} {u t : Value} (I : Inv X pins σ H s) (rx : RelV x u) (ty : TyF X.K H x t) : ∃ P : Heap → Prop, PySem.W.KitX X.K u t P ∧ P s.heap ∧ u ≠ .builtin "__main__.__loader__#opaque" := by
  rcases ty with ty | ⟨f, o, rfl, rfl, h1, h2⟩
  · exact kit_of I rx ty
  · cases (show u = Value.ref f from rx)
    exact ⟨_, fk_kit, ⟨o, I.kIn _ _ h1, h2⟩, fun z => nomatch z⟩
def rIsF (K : PySem.W.Frag) : List V → Hp → VK → Prop := fun xs H Q => ∃ (x c : V) (t u : Value) (b : Bool), xs = [x, c] ∧ ClsV c u ∧ TyF K H x t ∧ PySem.W.kitOne K t u = some b ∧ Q (.bl b) H
def rIsTF (K : PySem.W.Frag) : List V → Hp → VK → Prop := fun xs H Q => ∃ (x : V) (tp : Addr) (cs : List V) (t : Value) (us : List Value) (b : Bool), xs = [x, .ref tp] ∧ H tp = some (.tup cs) ∧ Paired ClsV cs us ∧ TyF K H x t ∧ PySem.W.kitAny K t us = some b ∧ Q (.bl b) H
theorem call_isTF : CallR X (.builtin "isinstance") (rIsTF X.K) := by
  intro pins s σ H xs us Q I r h
  obtain ⟨x, tp, cs, t, ws, b, rfl, hT, k, ty, e, q⟩ := h
  obtain ⟨u1, u2, rfl, r1, r2⟩ := vals2 r
  cases (show u2 = Value.ref tp from r2)
  obtain ⟨P, Z, p, hx⟩ := kit_ofF I r1 ty
  obtain ⟨_, its, rv, o, h1, h2, n, h3⟩ := (show ObjOk X.prog X.w H s.heap tp (.tup cs) from I.hok tp _ hT)
  have e3 := ClsV.all k rv
  subst e3
  obtain ⟨oc, od, dt, sl⟩ := o
  simp only at h2 h3
  subst h2 h3
  exact PySem.W.kia_tup Z I.kIn p h1 e hx fun tk => ⟨.bl b, H, I.tok tk, rfl, q⟩
theorem call_isF : CallR X (.builtin "isinstance") (rIsF X.K) := by
  intro pins s σ H xs us Q I r h
  obtain ⟨x, c, t, u, b, rfl, k, ty, e, q⟩ := h
  obtain ⟨u1, u2, rfl, r1, r2⟩ := vals2 r
  have e2 := k.eq r2
  subst e2
  obtain ⟨P, Z, p, hx⟩ := kit_ofF I r1 ty
  exact PySem.W.kia_one Z I.kIn p e hx fun tk => ⟨.bl b, H, I.tok tk, rfl, q⟩
theorem tyX_of {K : PySem.W.Frag} {O : List (Option Addr)} {H : Hp} {v : V} {d : D} (h : Sh K O H v d) : TyF K H v (.type (tyN d)) := by
  cases d with
  | none => cases h.none; exact .inl (.base .non)
  | bool b => cases h.bool; exact .inl (.base (.bl b))
  | int i => cases h.int; exact .inl (.base (.int i))
  | str x => obtain ⟨rfl, _⟩ := h.str; exact .inl (.base (.str x))
  | list ds =>
    obtain ⟨a, vs, rfl, q, _⟩ := h.list
    rcases q with (q | ⟨o, q⟩) | ⟨its, n, q, _⟩
    · exact .inl (.base (.lst q))
    · exact .inl (.base (.frz q))
    · exact .inl (.kList q rfl)
  | tuple ds =>
    obtain ⟨a, vs, rfl, q, _⟩ := h.tuple
    rcases q with (q | ⟨o, q⟩) | ⟨o, its, n, q, hc, _⟩
    · exact .inl (.base (.tup q))
    · exact .inl (.fTuple q)
    · exact .inl (.kTuple q hc)
  | dict ds =>
    by_cases hf : isFn ds = true
    · have e : tyN (.dict ds) = "function" := if_pos hf
      rw [e]
      rcases h with h | ⟨a, vs, ds', rfl, e, h1, h2⟩
      · cases h with
        | @dct _ _ kvs _ q e r =>
          exfalso
          unfold isFn at hf
          split at hf
          · cases kvs with
            | nil => cases e
            | cons p r' =>
              obtain ⟨k, v⟩ := p
              simp at e
              cases k <;> cases e.1
          · cases hf
        | fn q =>
          obtain ⟨o, h1, h2⟩ := Option.map_eq_some_iff.mp q.2
          exact .inr ⟨_, o, rfl, rfl, h1, h2⟩
      · cases e
    · have e : tyN (.dict ds) = "dict" := if_neg hf
      rw [e]
      obtain ⟨a, kvs, rfl, q, _⟩ := h.dict (by simpa using hf)
      rcases q with q | ⟨o, q⟩
      · exact .inl (.base (.dK q))
      · exact .inl (.fDict q)
def dIsi (T : String) (d : D) : Option Rv := (kitB (tyN d) T).map db
theorem xe_isi {T : String} {e : Expr} {x : Str} {f : ME} {p pt pos : Pos} (hg : Gl X "isinstance") (hm : X.mg "isinstance" = none) (hx : Gl X x) (hmx : X.mg x = none) (hv : bootBuiltins x = some (.type T)) (he : XE X f e)
    (hn : x ≠ "__name__" := by decide) (hd : (x == ("__debug__" : Str)) = false := by decide)
    (h1 : starEach [e, .Name x pt] X.env = (false, eval e X.env) :: starEach [.Name x pt] X.env := by rfl) (hpl : (backTo pos (starEach [.Name x pt] X.env)).any (·.1) = false := by rfl) :
    XE X (mU (dIsi T) f) (.Call (.Name "isinstance" p) [e, .Name x pt] [] pos) :=
  pe_weak (pe_callB call_isF hg hm (by decide +kernel) (pa_cons he (pa_cons (pe_bltn hx hmx hv (v := .ty T) rfl hn hd) pa_nil) h1) (he := h1) (hpl := hpl)) fun σ H Q ⟨ρ, O, cs, z, cs', e0, en, w, p⟩ => by
    obtain ⟨r, d, g1, g2, g3⟩ := mU_some e0
    obtain ⟨b, g4, rfl⟩ := Option.map_eq_some_iff.mp g3
    exact ⟨ρ, O, cs, r, cs', g1, en, w, fun v1 H1 c1 w1 r1 => ⟨v1, .ty T, _, _, b, rfl, .ty T, tyX_of (r1.deg.sh w1 g2), kit_ty g4, post_bool w1 (p.step c1 w1)⟩⟩
/-- the names of built-in classes, written -/
def tTys (Ts : List String) : TA := fun _ H Q => Q (Ts.map V.ty) H
theorem pt_nil : PA X [] (tTys []) := pa_nil
theorem pt_cons {T : String} {x : Str} {pt : Pos} {es : List Expr} {Ts : List String} (hx : Gl X x) (hmx : X.mg x = none) (hv : bootBuiltins x = some (.type T)) (hr : PA X es (tTys Ts)) (hn : x ≠ "__name__" := by decide) (hd : (x == ("__debug__" : Str)) = false := by decide)
    (hs : starEach (.Name x pt :: es) X.env = (false, eval (.Name x pt) X.env) :: starEach es X.env := by rfl) : PA X (.Name x pt :: es) (tTys (T :: Ts)) := pa_cons (pe_bltn hx hmx hv (v := .ty T) rfl hn hd) hr hs
def kitA (t : String) : List String → Option Bool
  | [] => some false
  | T :: r => match kitB t T with
    | some true => some true
    | some false => kitA t r
    | none => none
theorem kitA_ok {K : PySem.W.Frag} {t : String} : ∀ {Ts : List String}, PySem.W.kitAny K (.type t) (Ts.map Value.type) = kitA t Ts
  | [] => rfl
  | T :: r => by
    show (match PySem.W.kitOne K (.type t) (.type T) with
      | some true => some true
      | some false => PySem.W.kitAny K (.type t) (r.map Value.type)
      | none => none) = _
    rw [kitA_ok]
    rfl
theorem cls_all : ∀ Ts : List String, Paired ClsV (Ts.map V.ty) (Ts.map Value.type)
  | [] => .nil
  | T :: r => .cons (.ty T) (cls_all r)
def dIsiT (Ts : List String) (d : D) : Option Rv := (kitA (tyN d) Ts).map db
theorem xe_isiT {Ts : List String} {e : Expr} {es : List Expr} {f : ME} {p pt pos : Pos} {k : Nat} (hg : Gl X "isinstance") (hm : X.mg "isinstance" = none) (ht : PA X es (tTys Ts)) (he : XE X f e) (hz : Ts.length ≤ sizeLine := by rw [sizeLine_eq]; decide)
    (h1 : starEach [e, .Tuple es k pt] X.env = (false, eval e X.env) :: starEach [.Tuple es k pt] X.env := by rfl) (h2 : starEach [.Tuple es k pt] X.env = (false, eval (.Tuple es k pt) X.env) :: starEach [] X.env := by rfl) (hpl : (backTo pos (starEach [.Tuple es k pt] X.env)).any (·.1) = false := by rfl) :
    XE X (mU (dIsiT Ts) f) (.Call (.Name "isinstance" p) [e, .Tuple es k pt] [] pos) :=
  pe_weak (pe_callB call_isTF hg hm (by decide +kernel) (pa_cons he (pa_cons (pe_tup ht) pa_nil h2) h1) (he := h1) (hpl := hpl)) fun σ H Q ⟨ρ, O, cs, z, cs', e0, en, w, p⟩ => by
    obtain ⟨r, d, g1, g2, g3⟩ := mU_some e0
    obtain ⟨b, g4, rfl⟩ := Option.map_eq_some_iff.mp g3
    refine ⟨ρ, O, cs, r, cs', g1, en, w, fun v1 H1 c1 w1 r1 => ⟨by simpa using hz, fun q hq => ?_⟩⟩
    have w2 := w1.new (o := .tup (Ts.map V.ty)) hq
    have ar := r1.deg.ch (ch_new (O := O) (o := .tup (Ts.map V.ty)) hq)
    exact ⟨v1, q, Ts.map V.ty, _, Ts.map Value.type, b, rfl, upd_same, cls_all Ts, tyX_of (ar.sh w2 g2), by rw [kitA_ok]; exact g4, post_bool w2 (p.step (c1.trans (ch_new hq)) w2)⟩

/-! calls of built-ins with data -/
def dInt : List D → Option Rv
  | [.int i] => some (di i)
  | [.bool b] => some (di (if b then 1 else 0))
  | _ => none
theorem intCS {K : PySem.W.Frag} : CaS K (fun xs H Q => (∃ i, xs = [.int i] ∧ Q (.int i) H) ∨ ∃ k, xs = [.bl k] ∧ Q (.int (if k then 1 else 0)) H) dInt := by
  intro O cs H vs ds z Q w hp g p
  match ds, g, hp with
  | [.int i], g, hp =>
    obtain ⟨x, rfl, sx⟩ := Paired.one hp
    cases g
    exact .inl ⟨i, by rw [sx.int], post_int w p⟩
  | [.bool b], g, hp =>
    obtain ⟨x, rfl, sx⟩ := Paired.one hp
    cases g
    exact .inr ⟨b, by rw [sx.bool], post_int w p⟩
theorem xe_int1 {e : Expr} {fa : MA} {p pos : Pos} (hg : Gl X "int") (hm : X.mg "int" = none) (ha : XA X fa [e]) (he : starEach [e] X.env = (false, eval e X.env) :: starEach [] X.env := by rfl) : XE X (mCall dInt fa) (.Call (.Name "int" p) [e] [] pos) :=
  xe_callTy call_int1 intCS hg hm (by decide +kernel) ha (he := he)
/-- str of an int below 4300 figures, of a text -/
def rStr : List V → Hp → VK → Prop := fun xs H Q => (∃ i, xs = [.int i] ∧ i.natAbs < 10 ^ 4300 ∧ Q (.str (toString i)) H) ∨ ∃ a, xs = [.str a] ∧ Q (.str a) H
theorem call_strD (rm : Rm X) : CallR X (.type "str") rStr := by
  intro pins s σ H xs us Q I r h
  rcases h with ⟨i, rfl, hz, q⟩ | ⟨a, rfl, q⟩
  · obtain ⟨u, rfl, t, rfl⟩ := vals1 r
    have nd : s.heap.NoDigits := rm.nd.keeps fun a o e => (I.bk a o e)
    exact str_of_int_or (I.ok.hd rm.calm) nd (fun _ => ⟨.str _, H, I.tok _, ⟨_, rfl⟩, q⟩) fun hge => absurd hz (Nat.not_lt.mpr hge)
  · obtain ⟨u, rfl, t, rfl⟩ := vals1 r
    exact PySem.P.str_of_str ⟨.str a, H, I, ⟨t, rfl⟩, q⟩
def dStr : List D → Option Rv
  | [.int i] => if i.natAbs < 10 ^ 4300 then some (.dat (.str (Str.ofString (toString i)))) else none
  | [.str x] => some (.dat (.str x))
  | _ => none
theorem strCS {K : PySem.W.Frag} : CaS K rStr dStr := by
  intro O cs H vs ds z Q w hp g p
  match ds, g, hp with
  | [.int i], g, hp =>
    obtain ⟨x, rfl, sx⟩ := Paired.one hp
    obtain ⟨hz, rfl⟩ := ite_some g
    exact .inl ⟨i, by rw [sx.int], hz, post_str w (PySem.int_text_fits10 hz) p⟩
  | [.str y], g, hp =>
    obtain ⟨x, rfl, sx⟩ := Paired.one hp
    cases g
    obtain ⟨rfl, hz⟩ := sx.str
    exact .inr ⟨y, rfl, post_str w hz p⟩
theorem xe_str1 {e : Expr} {fa : MA} {p pos : Pos} (rm : Rm X) (hg : Gl X "str") (hm : X.mg "str" = none) (ha : XA X fa [e]) (he : starEach [e] X.env = (false, eval e X.env) :: starEach [] X.env := by rfl) : XE X (mCall dStr fa) (.Call (.Name "str" p) [e] [] pos) :=
  xe_callTy (call_strD rm) strCS hg hm (by decide +kernel) ha (he := he)
/-- list(..) of a list, a tuple, a text -/
theorem CallR.or {f : Value} {r r' : List V → Hp → VK → Prop} (h : CallR X f r) (h' : CallR X f r') : CallR X f (fun xs H Q => r xs H Q ∨ r' xs H Q) := fun pins s σ H xs us Q I rv q => by
  rcases q with q | q
  · exact h pins s σ H xs us Q I rv q
  · exact h' pins s σ H xs us Q I rv q
def charsV (x : Str) : List V := x.cps.toList.map fun c => .str ⟨#[c]⟩
def charsD (x : Str) : List D := x.cps.toList.map fun c => .str ⟨#[c]⟩
theorem chars_rp {K : PySem.W.Frag} {H : Hp} (x : Str) : RpAll K H (charsV x) (charsD x) := by
  unfold charsV charsD
  induction x.cps.toList with
  | nil => exact .nil
  | cons c r ih => exact .cons (.str _ (one_sign c)) ih
theorem vals_ix : ∀ {xs : List V} {us : List Value}, us.length = xs.length → (∀ (j : Nat) (u : Value), us[j]? = some u → ∃ x, xs[j]? = some x ∧ RelV x u) → Vals xs us
  | [], [], _, _ => .nil
  | [], _ :: _, h, _ => by simp at h
  | _ :: _, [], h, _ => by simp at h
  | x :: xs, u :: us, h, k => by
    obtain ⟨y, e, r⟩ := k 0 u rfl
    have e' : x = y := Option.some.inj e
    subst e'
    exact .cons r (vals_ix (Nat.succ.inj h) fun j v hv => k (j + 1) v hv)
theorem call_list_tx (rm : Rm X) : CallR X (.type "list") (fun xs H Q => ∃ x, xs = [.str x] ∧ x.length ≤ sizeLine ∧ ∀ l, H l = none → Q (.ref l) (upd H l (.lst (charsV x)))) := by
  intro pins s σ H xs us Q I r h
  obtain ⟨x, rfl, hz, q⟩ := h
  obtain ⟨u, rfl, t, rfl⟩ := vals1 r
  have hl : (charsV x).length = x.cps.size := by simp [charsV]
  refine call_list_str (I.ok.hd rm.calm) x t (hn := hz) fun h' tk acc' c' hk hS' hacc => ?_
  refine ⟨.ref s.heap.objs.size, upd H s.heap.objs.size (.lst (charsV x)), I.laid hk (Nat.le_refl _) (show ObjOk X.prog X.w _ _ _ (.lst (charsV x)) from ⟨by rw [hl]; exact hz, acc'.toList, c', vals_ix (by rw [hl]; simpa using hacc.1) fun j u hu => ?_, ?_⟩), rfl, q _ (I.hok.fresh (Nat.le_refl _))⟩
  · obtain ⟨c, t', hc, rfl⟩ := hacc.2 j u (by simpa using hu)
    exact ⟨.str ⟨#[c]⟩, by simp [charsV, hc], t', rfl⟩
  · rw [Array.toArray_toList]; exact hS'
def dList : List D → Option Rv
  | [.list ds] => some (.fr ds)
  | [.tuple ds] => some (.fr ds)
  | [.str x] => some (.fr (charsD x))
  | _ => none
def rListD (K : PySem.W.Frag) : List V → Hp → VK → Prop := fun xs H Q => (∃ p ys, xs = [.ref p] ∧ (SqL K H p ys ∨ SqT K H p ys) ∧ ∀ l, H l = none → Q (.ref l) (upd H l (.lst ys))) ∨ ∃ x, xs = [.str x] ∧ x.length ≤ sizeLine ∧ ∀ l, H l = none → Q (.ref l) (upd H l (.lst (charsV x)))
theorem listCS {K : PySem.W.Frag} : CaS K (rListD K) dList := by
  intro O cs H vs ds z Q w hp g p
  match ds, g, hp with
  | [.list ds], g, hp =>
    obtain ⟨x, rfl, sx⟩ := Paired.one hp
    cases g
    obtain ⟨a, vs, rfl, q, r⟩ := sx.list
    exact .inl ⟨a, vs, rfl, .inl q.sq, post_list w r p⟩
  | [.tuple ds], g, hp =>
    obtain ⟨x, rfl, sx⟩ := Paired.one hp
    cases g
    obtain ⟨a, vs, rfl, q, r⟩ := sx.tuple
    exact .inl ⟨a, vs, rfl, .inr q, post_list w r p⟩
  | [.str y], g, hp =>
    obtain ⟨x, rfl, sx⟩ := Paired.one hp
    cases g
    obtain ⟨rfl, hz⟩ := sx.str
    exact .inr ⟨y, rfl, hz, post_list w (chars_rp y) p⟩
theorem xe_list1 {e : Expr} {fa : MA} {p pos : Pos} (rm : Rm X) (hg : Gl X "list") (hm : X.mg "list" = none) (ha : XA X fa [e]) (he : starEach [e] X.env = (false, eval e X.env) :: starEach [] X.env := by rfl) : XE X (mCall dList fa) (.Call (.Name "list" p) [e] [] pos) :=
  xe_callTy (CallR.or call_list_of (call_list_tx rm)) listCS hg hm (by decide +kernel) ha (he := he)
/-- tuple(..) of a list, a tuple -/
def dTuple : List D → Option Rv
  | [.list ds] => some (.dat (.tuple ds))
  | [.tuple ds] => some (.dat (.tuple ds))
  | _ => none
theorem tupleCS {K : PySem.W.Frag} : CaS K (fun xs H Q => ∃ p ys, xs = [.ref p] ∧ ((SqL K H p ys ∧ ∀ l, H l = none → Q (.ref l) (upd H l (.tup ys))) ∨ (SqT K H p ys ∧ Q (.ref p) H))) dTuple := by
  intro O cs H vs ds z Q w hp g p
  match ds, g, hp with
  | [.list ds], g, hp =>
    obtain ⟨x, rfl, sx⟩ := Paired.one hp
    cases g
    obtain ⟨a, vs, rfl, q, r⟩ := sx.list
    exact ⟨a, vs, rfl, .inl ⟨q.sq, post_tup w r p⟩⟩
  | [.tuple ds], g, hp =>
    obtain ⟨x, rfl, sx⟩ := Paired.one hp
    cases g
    have sx' := sx
    obtain ⟨a, vs, rfl, q, r⟩ := sx.tuple
    rcases sx' with sx' | ⟨_, _, _, _, h, _⟩
    · exact ⟨a, vs, rfl, .inr ⟨q, post_val w sx' p⟩⟩
    · cases h
theorem xe_tuple1 {e : Expr} {fa : MA} {p pos : Pos} (hg : Gl X "tuple") (hm : X.mg "tuple" = none) (ha : XA X fa [e]) (he : starEach [e] X.env = (false, eval e X.env) :: starEach [] X.env := by rfl) : XE X (mCall dTuple fa) (.Call (.Name "tuple" p) [e] [] pos) :=
  xe_callTy call_tuple_of tupleCS hg hm (by decide +kernel) ha (he := he)
/-- abs, max, min of two ints, sum of ints -/
def dAbs : List D → Option Rv
  | [.int i] => some (di (if i < 0 then -i else i))
  | _ => none
theorem absCS {K : PySem.W.Frag} : CaS K (fun xs H Q => ∃ i, xs = [.int i] ∧ Q (.int (if i < 0 then -i else i)) H) dAbs := by
  intro O cs H vs ds z Q w hp g p
  match ds, g, hp with
  | [.int i], g, hp =>
    obtain ⟨x, rfl, sx⟩ := Paired.one hp
    cases g
    exact ⟨i, by rw [sx.int], post_int w p⟩
theorem xe_abs {e : Expr} {fa : MA} {p pos : Pos} (hg : Gl X "abs") (hm : X.mg "abs" = none) (ha : XA X fa [e]) (he : starEach [e] X.env = (false, eval e X.env) :: starEach [] X.env := by rfl) : XE X (mCall dAbs fa) (.Call (.Name "abs" p) [e] [] pos) :=
  xe_callB call_abs absCS hg hm (by decide +kernel) ha (he := he)
def dMax2 : List D → Option Rv
  | [.int i, .int j] => some (di (if j > i then j else i))
  | _ => none
def dMin2 : List D → Option Rv
  | [.int i, .int j] => some (di (if j < i then j else i))
  | _ => none
theorem max2CS {K : PySem.W.Frag} : CaS K (fun xs H Q => ∃ i j, xs = [.int i, .int j] ∧ Q (.int (if j > i then j else i)) H) dMax2 := by
  intro O cs H vs ds z Q w hp g p
  match ds, g, hp with
  | [.int i, .int j], g, hp =>
    obtain ⟨x, y, rfl, sx, sy⟩ := Paired.two hp
    cases g
    exact ⟨i, j, by rw [sx.int, sy.int], post_int w p⟩
theorem min2CS {K : PySem.W.Frag} : CaS K (fun xs H Q => ∃ i j, xs = [.int i, .int j] ∧ Q (.int (if j < i then j else i)) H) dMin2 := by
  intro O cs H vs ds z Q w hp g p
  match ds, g, hp with
  | [.int i, .int j], g, hp =>
    obtain ⟨x, y, rfl, sx, sy⟩ := Paired.two hp
    cases g
    exact ⟨i, j, by rw [sx.int, sy.int], post_int w p⟩
theorem xe_max2 {e e2 : Expr} {fa : MA} {p pos : Pos} (rm : Rm X) (hg : Gl X "max") (hm : X.mg "max" = none) (ha : XA X fa [e, e2]) (he : starEach [e, e2] X.env = (false, eval e X.env) :: starEach [e2] X.env := by rfl) (hpl : (backTo pos (starEach [e2] X.env)).any (·.1) = false := by rfl) : XE X (mCall dMax2 fa) (.Call (.Name "max" p) [e, e2] [] pos) :=
  xe_callB (call_max2 rm.calm) max2CS hg hm (by decide +kernel) ha (he := he) (hpl := hpl)
theorem xe_min2 {e e2 : Expr} {fa : MA} {p pos : Pos} (rm : Rm X) (hg : Gl X "min") (hm : X.mg "min" = none) (ha : XA X fa [e, e2]) (he : starEach [e, e2] X.env = (false, eval e X.env) :: starEach [e2] X.env := by rfl) (hpl : (backTo pos (starEach [e2] X.env)).any (·.1) = false := by rfl) : XE X (mCall dMin2 fa) (.Call (.Name "min" p) [e, e2] [] pos) :=
  xe_callB (call_min2 rm.calm) min2CS hg hm (by decide +kernel) ha (he := he) (hpl := hpl)
def intsD : List D → Option (List Int)
  | [] => some []
  | .int i :: r => (intsD r).map fun is => i :: is
  | _ => none
theorem intsD_v {K : PySem.W.Frag} {H : Hp} : ∀ {ds : List D} {vs : List V} {is : List Int}, RpAll K H vs ds → intsD ds = some is → vs = is.map V.int
  | [], vs, is, r, e => by cases r; cases e; rfl
  | .int i :: ds, vs, is, r, e => by
    obtain ⟨js, h1, h2⟩ := Option.map_eq_some_iff.mp e
    subst h2
    cases r with
    | cons a t =>
      cases a
      rw [intsD_v t h1]; rfl
  | .none :: _, _, _, _, e => by cases e
  | .bool _ :: _, _, _, _, e => by cases e
  | .str _ :: _, _, _, _, e => by cases e
  | .list _ :: _, _, _, _, e => by cases e
  | .tuple _ :: _, _, _, _, e => by cases e
  | .dict _ :: _, _, _, _, e => by cases e
def dSum : List D → Option Rv
  | [.list ds] => (intsD ds).map fun is => di is.sum
  | _ => none
theorem sumCS {K : PySem.W.Frag} : CaS K (rSum K) dSum := by
  intro O cs H vs ds z Q w hp g p
  match ds, g, hp with
  | [.list ds], g, hp =>
    obtain ⟨x, rfl, sx⟩ := Paired.one hp
    obtain ⟨is, h1, rfl⟩ := Option.map_eq_some_iff.mp g
    obtain ⟨a, vs, rfl, q, r⟩ := sx.list
    have e := intsD_v r h1
    subst e
    exact ⟨a, is, rfl, q.sq, post_int w p⟩
theorem xe_sum {e : Expr} {fa : MA} {p pos : Pos} (rm : Rm X) (hg : Gl X "sum") (hm : X.mg "sum" = none) (ha : XA X fa [e]) (he : starEach [e] X.env = (false, eval e X.env) :: starEach [] X.env := by rfl) : XE X (mCall dSum fa) (.Call (.Name "sum" p) [e] [] pos) :=
  xe_callB (cr_sum rm.calm) sumCS hg hm (by decide +kernel) ha (he := he)
end
end DL
namespace DL
open PySem PySem.Spec PyProof.Rows L2
section
variable {X : Cx}
/-! repr -/
def scal : D → Bool
  | .none | .bool _ | .int _ | .str _ => true
  | _ => false
def flatD : D → Bool
  | .dict kvs => !isFn kvs && kvs.all fun p => scal p.1 && scal p.2
  | d => !d.hasDict
def rOk (d : D) : Bool := d.showable && flatD d && decide (d.depth ≤ 100) && decide (d.shown.length ≤ sizeLine)
theorem reads_scal {h : Heap} : ∀ {us : List Value} {ds : List D} {as : List Addr}, ReadsAll h us ds as → (∀ d ∈ ds, scal d = true) → as = []
  | _, _, _, .nil, _ => rfl
  | _, _, _, .cons (d := d) a r, q => by
    have h1 := q _ (List.mem_cons_self ..)
    have h2 := reads_scal r fun d hd => q d (List.mem_cons_of_mem _ hd)
    subst h2
    cases a <;> first | rfl | cases h1
theorem scal_noF {d : D} (h : scal d = true) : noF d = true := by
  cases d <;> first | (unfold noF; rfl) | cases h
theorem flat_noF {d : D} (h : flatD d = true) : noF d = true := by
  cases d with
  | dict kvs =>
    obtain ⟨h1, h2⟩ := Bool.and_eq_true_iff.mp (show (!isFn kvs && kvs.all fun p => scal p.1 && scal p.2) = true from h)
    unfold noF
    rw [h1, Bool.true_and]
    clear h h1
    induction kvs with
    | nil => unfold noFk; rfl
    | cons p r ih =>
      rw [List.all_cons, Bool.and_eq_true, Bool.and_eq_true] at h2
      obtain ⟨k, v⟩ := p
      unfold noFk
      rw [scal_noF h2.1.2, ih h2.2]
      rfl
  | list ds => exact noF_nodict (by simpa using (show (!PyData.hasDict (.list ds)) = true from h))
  | tuple ds => exact noF_nodict (by simpa using (show (!PyData.hasDict (.tuple ds)) = true from h))
  | none => unfold noF; rfl
  | bool _ => unfold noF; rfl
  | int _ => unfold noF; rfl
  | str _ => unfold noF; rfl
def rReprD (K : PySem.W.Frag) : List V → Hp → VK → Prop := fun xs H Q => ∃ x d, xs = [x] ∧ Rp K H x d ∧ rOk d = true ∧ Q (.str d.shown) H
theorem call_reprD (rm : Rm X) : CallR X (.builtin "repr") (rReprD X.K) := by
  intro pins s σ H xs us Q I r h
  obtain ⟨x, d, rfl, rx, ok, q⟩ := h
  unfold rOk at ok
  simp only [Bool.and_eq_true, decide_eq_true_eq] at ok
  obtain ⟨⟨⟨o1, o2⟩, o3⟩, o4⟩ := ok
  have go : ∀ (a : Addr), x = .ref a → wpAny (model X.prog X.w) X.A (call (.builtin "repr") us) (EP X pins σ Q) X.xe s := by
    intro a ea
    subst ea
    obtain ⟨u, rfl, ru⟩ := vals1 r
    obtain ⟨as, rd⟩ := Rp.reads I rx (flat_noF o2) _ ru
    cases ru
    refine repr_of_reads' (h₀ := s.heap) rd o1 (fun hd => ?_) rm.gd (by have := rm.un; omega) (fun _ _ e => e) (fun h' u tk k => ⟨.str _, H, I.kept k, ⟨_, rfl⟩, q⟩) o4
    cases rx with
    | lst _ _ => rw [show flatD (.list _) = !(PyData.hasDict (.list _)) from rfl, hd] at o2; cases o2
    | tup _ _ => rw [show flatD (.tuple _) = !(PyData.hasDict (.tuple _)) from rfl, hd] at o2; cases o2
    | fn _ => cases o2
    | dct qd e b =>
      obtain ⟨_, hS, _⟩ := dk_rd I.hok (.inr ⟨_, qd⟩)
      have sc := List.all_eq_true.mp (Bool.and_eq_true_iff.mp (show (!_ && List.all _ _) = true from o2)).2
      cases rd with
      | dict g1 g2 g3 g4 g5 =>
        have e1 := reads_scal g4 (by
          intro d hd
          obtain ⟨p, hp, rfl⟩ := List.mem_map.mp hd
          have := sc p hp
          simp only [Bool.and_eq_true] at this
          exact this.1)
        have e2 := reads_scal g5 (by
          intro d hd
          obtain ⟨p, hp, rfl⟩ := List.mem_map.mp hd
          have := sc p hp
          simp only [Bool.and_eq_true] at this
          exact this.2)
        subst e1 e2
        simpa using Ne.symm (beq_eq_false_iff_ne.mp hS)
  cases rx with
  | non =>
    obtain ⟨u, rfl, ru⟩ := vals1 r
    cases ru
    exact PySem.P.repr_of_none ⟨.str _, H, I.tok _, ⟨_, rfl⟩, q⟩
  | bl b =>
    obtain ⟨u, rfl, ru⟩ := vals1 r
    cases ru
    exact PySem.P.repr_of_bool ⟨.str _, H, I.tok _, ⟨_, rfl⟩, q⟩
  | int i =>
    obtain ⟨u, rfl, t, rfl⟩ := vals1 r
    exact PySem.P.repr_of_int (by simpa [PyData.showable] using o1) ⟨.str _, H, I.tok _, ⟨_, rfl⟩, q⟩
  | str y hz =>
    obtain ⟨u, rfl, t, rfl⟩ := vals1 r
    exact PySem.P.repr_of_str ⟨.str _, H, I.tok _, ⟨_, rfl⟩, q⟩ o4
  | lst _ _ => exact go _ rfl
  | tup _ _ => exact go _ rfl
  | dct _ _ _ => exact go _ rfl
  | fn _ => exact go _ rfl
def dRepr : List D → Option Rv
  | [d] => if rOk d = true then some (.dat (.str d.shown)) else none
  | _ => none
theorem reprCS {K : PySem.W.Frag} : CaS K (rReprD K) dRepr := by
  intro O cs H vs ds z Q w hp g p
  match ds, g, hp with
  | [d], g, hp =>
    obtain ⟨x, rfl, sx⟩ := Paired.one hp
    obtain ⟨hz, rfl⟩ := ite_some g
    refine ⟨x, d, rfl, sx.rp, hz, post_str w ?_ p⟩
    unfold rOk at hz
    simp only [Bool.and_eq_true, decide_eq_true_eq] at hz
    exact hz.2
theorem xe_repr {e : Expr} {fa : MA} {p pos : Pos} (rm : Rm X) (hg : Gl X "repr") (hm : X.mg "repr" = none) (ha : XA X fa [e]) (he : starEach [e] X.env = (false, eval e X.env) :: starEach [] X.env := by rfl) : XE X (mCall dRepr fa) (.Call (.Name "repr" p) [e] [] pos) :=
  xe_callB (call_reprD rm) reprCS hg hm (by decide +kernel) ha (he := he)

/-! sorted -/
mutual
theorem noF_alike : ∀ {d : D}, PySem.W.alike d d = true → noF d = true
  | .none, _ => by unfold noF; rfl
  | .bool _, _ => by unfold noF; rfl
  | .int _, _ => by unfold noF; rfl
  | .str _, _ => by unfold noF; rfl
  | .list ds, h => by unfold noF; exact noFs_alike (by simpa only [PySem.W.alike] using h)
  | .tuple ds, h => by unfold noF; exact noFs_alike (by simpa only [PySem.W.alike] using h)
  | .dict _, h => by simp [PySem.W.alike] at h
theorem noFs_alike : ∀ {ds : List D}, PySem.W.alikeAll ds ds = true → noFs ds = true
  | [], _ => by unfold noFs; rfl
  | d :: ds, h => by
    simp only [PySem.W.alikeAll, Bool.and_eq_true] at h
    unfold noFs
    rw [noF_alike h.1, noFs_alike h.2]
    rfl
end
def nTup : D → Bool
  | .tuple (_ :: _) => true
  | _ => false
def nOth : D → Bool
  | .tuple _ => false
  | .none => false
  | _ => true
def sOk (ds : List D) : Bool := ds.all (fun d => ds.all fun e => PySem.W.alike d e) && (ds.all nTup || ds.all nOth) && ds.all (fun d => decide (d.depth ≤ 100))
def srt (ds : List D) : List D := ds.mergeSort (PySem.W.dataLe false id)
def rSortedD (K : PySem.W.Frag) : List V → Hp → VK → Prop := fun xs H Q => ∃ (R : V → D → Prop) (a : Addr) (vs : List V) (ds : List D), xs = [.ref a] ∧ SqL K H a vs ∧ Paired (fun v d => Rp K H v d ∧ R v d) vs ds ∧ sOk ds = true ∧
  ∀ p ws, H p = none → Paired R ws (srt ds) → Q (.ref p) (upd H p (.lst ws))
theorem each_of {R : V → D → Prop} : ∀ {ws : List Value} {ds : List D}, PySem.W.EachIs (fun u d => ∃ v, RelV v u ∧ R v d) ws ds → ∃ vs, Vals vs ws ∧ Paired R vs ds
  | _, _, .nil => ⟨[], .nil, .nil⟩
  | _, _, .cons a r => by
    obtain ⟨v, h1, h2⟩ := a
    obtain ⟨vs, q1, q2⟩ := each_of r
    exact ⟨v :: vs, .cons h1 q1, .cons h2 q2⟩
theorem call_sortedD' (rm : Rm X) : CallR X (.builtin "sorted") (rSortedD X.K) := by
  intro pins s σ H xs us Q I r h
  obtain ⟨R, a, vs, ds, rfl, hs, hp, ok, q⟩ := h
  unfold sOk at ok
  simp only [Bool.and_eq_true, Bool.or_eq_true] at ok
  obtain ⟨⟨o1, o2⟩, o3⟩ := ok
  obtain ⟨its, rv, ⟨o, n, ho, hc, _, hd⟩, hz⟩ := I.list hs
  rw [Vals.ref1 r]
  have hl : vs.length = ds.length := by
    clear q rv hz o1 o2 o3 hs
    induction hp with
    | nil => rfl
    | cons _ _ ih => simp [ih]
  have onf : ∀ d ∈ ds, noF d = true := fun d hd => noF_alike (List.all_eq_true.mp (List.all_eq_true.mp o1 d hd) d hd)
  have e1 : PySem.W.EachIs (fun u d => (∃ v, RelV v u ∧ R v d) ∧ ∃ as, Reads s.heap u d as) its ds := by
    clear q hz o1 o2 o3 hs hl hd
    induction hp generalizing its with
    | nil => cases rv; exact .nil
    | cons b _ ih =>
      cases rv with
      | cons r1 r2 =>
        exact .cons ⟨⟨_, r1, b.2⟩, Rp.reads I b.1 (onf _ (List.mem_cons_self ..)) _ r1⟩ (ih _ r2 fun d hd => onf d (List.mem_cons_of_mem _ hd))
  have h0 := PySem.W.sorted_data (prog := X.prog) (w := X.w) (A := X.A) (E := X.xe) (R := fun u d => ∃ v, RelV v u ∧ R v d) (enc := id) (bs := ds) (vs := its) (l := a) (s := s) (Q := EP X pins σ Q) ⟨o, ho, hc, n, hd⟩
    (e1.mono fun _ _ z => z.1) (e1.mono fun _ _ z => z.2) (by
      rw [List.map_id]
      intro d hd d' hd'
      exact List.all_eq_true.mp (List.all_eq_true.mp o1 d hd) d' hd') (by
      rw [List.map_id]
      rcases o2 with o2 | o2
      · refine .inl fun d hd => ?_
        have := List.all_eq_true.mp o2 d hd
        cases d with
        | tuple l => cases l with
          | nil => cases this
          | cons x r => exact ⟨x, r, rfl⟩
        | _ => cases this
      · refine .inr fun d hd => ?_
        have := List.all_eq_true.mp o2 d hd
        cases d with
        | tuple l => cases this
        | none => cases this
        | _ => exact ⟨fun z => PyData.noConfusion z, fun _ z => PyData.noConfusion z⟩) (by rw [← hl]; exact hz) (fun b hb => by
      have := of_decide_eq_true (List.all_eq_true.mp o3 b hb)
      have := rm.un
      show _ + 2 + b.depth < _
      omega)
  refine h0 fun out ho1 ho2 => ?_
  obtain ⟨ws, v1, v2⟩ := each_of ho2
  obtain ⟨ep, he'⟩ := PyProof.Rows.sortedAll_at s.heap its out.toArray
  exact ⟨.ref _, upd H (s.heap.objs.size + 1) (.lst ws), I.laid (t' := s.toks) (fun _ _ => PyProof.Rows.sortedAll_old) (Nat.le_succ _) ⟨by rw [v1.length, ho1, ← hl]; exact hz, out, ep, v1, he'⟩, rfl, q _ _ (I.hok.fresh (Nat.le_succ _)) v2⟩
def dSorted : List D → Option Rv
  | [.list ds] => if sOk ds = true then some (.fr (srt ds)) else none
  | _ => none
theorem paired_rp {K : PySem.W.Frag} {H H' : Hp} : ∀ {vs : List V} {ds : List D}, RpAll K H vs ds → (∀ {v d}, Rp K H v d → Rp K H' v d) → Paired (fun v d => Rp K H' v d ∧ Rp K H v d) vs ds
  | _, _, .nil, _ => .nil
  | _, _, .cons a r, h => .cons ⟨h a, a⟩ (paired_rp r h)
theorem rp_paired {K : PySem.W.Frag} {H : Hp} : ∀ {vs : List V} {ds : List D}, Paired (Rp K H) vs ds → RpAll K H vs ds
  | _, _, .nil => .nil
  | _, _, .cons a r => .cons a (rp_paired r)
theorem sortedCS {K : PySem.W.Frag} : CaS K (rSortedD K) dSorted := by
  intro O cs H vs ds z Q w hp g p
  match ds, g, hp with
  | [.list ds], g, hp =>
    obtain ⟨x, rfl, sx⟩ := Paired.one hp
    obtain ⟨hz, rfl⟩ := ite_some g
    obtain ⟨a, vs, rfl, q, r⟩ := sx.list
    exact ⟨Rp K (hd O H), a, vs, ds, rfl, q.sq, paired_rp r (fun h => h.mono hd_le), hz, fun b ws hb hw => post_list w (rp_paired hw) p b hb⟩
theorem xe_sorted {e : Expr} {fa : MA} {p pos : Pos} (rm : Rm X) (hg : Gl X "sorted") (hm : X.mg "sorted" = none) (ha : XA X fa [e]) (he : starEach [e] X.env = (false, eval e X.env) :: starEach [] X.env := by rfl) : XE X (mCall dSorted fa) (.Call (.Name "sorted" p) [e] [] pos) :=
  xe_callB (call_sortedD' rm) sortedCS hg hm (by decide +kernel) ha (he := he)

/-! str.join, bit_length -/
def strsD : List D → Option (List Str)
  | [] => some []
  | .str i :: r => (strsD r).map fun is => i :: is
  | _ => none
theorem strsD_v {K : PySem.W.Frag} {H : Hp} : ∀ {ds : List D} {vs : List V} {is : List Str}, RpAll K H vs ds → strsD ds = some is → vs = is.map V.str
  | [], vs, is, r, e => by cases r; cases e; rfl
  | .str i :: ds, vs, is, r, e => by
    obtain ⟨js, h1, h2⟩ := Option.map_eq_some_iff.mp e
    subst h2
    cases r with
    | cons a t =>
      cases a
      rw [strsD_v t h1]; rfl
  | .none :: _, _, _, _, e => by cases e
  | .bool _ :: _, _, _, _, e => by cases e
  | .int _ :: _, _, _, _, e => by cases e
  | .list _ :: _, _, _, _, e => by cases e
  | .tuple _ :: _, _, _, _, e => by cases e
  | .dict _ :: _, _, _, _, e => by cases e
def joinOk (a : Str) (ys : List Str) : Bool := decide ((ys.map (·.length)).sum + ys.length * a.length ≤ 16777216) && decide ((Txt.join a ys).length ≤ sizeLine)
def dJoin : D → D → Option Rv
  | .str a, .list ds => (strsD ds).bind fun ys => if joinOk a ys = true then some (.dat (.str (Txt.join a ys))) else none
  | .str a, .tuple ds => (strsD ds).bind fun ys => if joinOk a ys = true then some (.dat (.str (Txt.join a ys))) else none
  | _, _ => none
/-- a text's method with one argument -/
def M1S (K : PySem.W.Frag) (r : V → List V → Hp → VK → Prop) (g : D → D → Option Rv) : Prop := ∀ (O : List (Option Addr)) (cs : Cs) (H : Hp) (x y : V) (d e : D) (z : Rv) (Q : VK), Wd K O cs H → Sh K O H x d → Sh K O H y e → g d e = some z → PostX K O H z cs Q → (∃ a, x = .str a) ∧ r x [y] H Q
theorem joinS {K : PySem.W.Frag} : M1S K (fun x xs H Q => ∃ a p, ∃ ys : List Str, x = .str a ∧ xs = [.ref p] ∧ (SqL K H p (ys.map V.str) ∨ SqT K H p (ys.map V.str)) ∧
      (ys.map (·.length)).sum + ys.length * a.length ≤ 16777216 ∧ Q (.str (Txt.join a ys)) H) dJoin := by
  intro O cs H x y d e z Q w sx sy g p
  have fin : ∀ {a : Str} {ys : List Str}, (if joinOk a ys = true then some (Rv.dat (.str (Txt.join a ys))) else none) = some z → (ys.map (·.length)).sum + ys.length * a.length ≤ 16777216 ∧ Q (.str (Txt.join a ys)) H := fun {a ys} g => by
    obtain ⟨hz, rfl⟩ := ite_some g
    unfold joinOk at hz
    simp only [Bool.and_eq_true, decide_eq_true_eq] at hz
    exact ⟨hz.1, post_str w hz.2 p⟩
  cases d with
  | str a =>
    obtain ⟨rfl, _⟩ := sx.str
    cases e with
    | list ds =>
      obtain ⟨ys, h1, g⟩ := Option.bind_eq_some_iff.mp g
      obtain ⟨b, vs, rfl, q, r⟩ := sy.list
      have e := strsD_v r h1
      subst e
      exact ⟨⟨a, rfl⟩, a, b, ys, rfl, rfl, .inl q.sq, fin g⟩
    | tuple ds =>
      obtain ⟨ys, h1, g⟩ := Option.bind_eq_some_iff.mp g
      obtain ⟨b, vs, rfl, q, r⟩ := sy.tuple
      have e := strsD_v r h1
      subst e
      exact ⟨⟨a, rfl⟩, a, b, ys, rfl, rfl, .inr q, fin g⟩
    | _ => cases g
  | _ => cases g
/-- evaluated before: the receiver must be a text at once -/
def mM1 (g : D → D → Option Rv) (fa fb : ME) : ME := fun ρ cs => (fa ρ cs).bind fun p => match p.1 with
  | .dat (.str a) => (fb ρ p.2).bind fun q => (rd (deg q.1) q.2).bind fun e => (g (.str a) e).map fun z => (z, q.2)
  | _ => none
theorem tM1_of {K : PySem.W.Frag} {r : V → List V → Hp → VK → Prop} {g : D → D → Option Rv} {fa fb : ME} (hs : M1S K r g) {σ : L2.St} {H : Hp} {Q : VK} (h : tX K (mM1 g fa fb) σ H Q) : tM1 r (tX K fa) (tX K fb) σ H Q := by
  obtain ⟨ρ, O, cs, z, cs', e, en, w, p⟩ := h
  obtain ⟨⟨x, cs1⟩, h1, e⟩ := Option.bind_eq_some_iff.mp e
  dsimp only at e
  split at e
  · rename_i a
    obtain ⟨⟨y, cs2⟩, h2, e⟩ := Option.bind_eq_some_iff.mp e
    obtain ⟨ye, h3, e⟩ := Option.bind_eq_some_iff.mp e
    obtain ⟨z', h4, e⟩ := Option.map_eq_some_iff.mp e
    cases e
    refine ⟨ρ, O, cs, _, cs1, h1, en, w, fun v1 H1 c1 w1 r1 => ?_⟩
    have e1 := (Sh.str (.inl r1 : Sh K O H1 v1 (.str a))).1
    refine ⟨⟨a, e1⟩, ρ, O, cs1, y, cs2, h2, en.ch c1, w1, fun v2 H2 c2 w2 r2 => ?_⟩
    exact (hs O cs2 H2 v1 v2 (.str a) ye _ Q w2 (.inl (Rp.mono c2.data r1)) (r2.deg.sh w2 h3) h4 (p.step (c1.trans c2) w2)).2
  · cases e
theorem xe_join {o e : Expr} {fa fb : ME} {apos pos : Pos} (ho : XE X fa o) (he : XE X fb e) (hs : starEach [e] X.env = [(false, eval e X.env)] := by rfl) (hbase : attributeBase o "join" X.env (eval o X.env) = eval o X.env := by rfl) (hline : (apos.endLine == pos.line) = true := by rfl) :
    XE X (mM1 dJoin fa fb) (.Call (.Attribute o "join" apos) [e] [] pos) := pe_weak (pe_join ho he hs hbase hline) fun σ H Q h => tM1_of joinS h
def dBits : D → Option Rv
  | .int i => some (di (Builtin.Int.intBits i : Nat))
  | _ => none
theorem xe_bits {o : Expr} {fa : ME} {apos pos : Pos} (ho : XE X fa o) (hbase : attributeBase o "bit_length" X.env (eval o X.env) = eval o X.env := by rfl) (hline : (apos.endLine == pos.line) = true := by rfl) : XE X (mU dBits fa) (.Call (.Attribute o "bit_length" apos) [] [] pos) :=
  pe_weak (pe_bits ho hbase hline) fun σ H Q ⟨ρ, O, cs, z, cs', e, en, w, p⟩ => by
    obtain ⟨x, d, h1, h2, h3⟩ := mU_some e
    refine ⟨ρ, O, cs, x, cs', h1, en, w, fun v1 H1 c1 w1 r1 => ?_⟩
    have sx := r1.deg.sh w1 h2
    cases d with
    | int i =>
      cases h3
      exact ⟨i, sx.int, post_int w1 (p.step c1 w1)⟩
    | _ => cases h3
end
end DL
namespace DL
open PySem PySem.Spec PyProof.Rows L2
section
variable {X : Cx}
/-! dicts: locked as soon as they are made -/
def lockQ (Q : VK) : VK := fun v H' => ∃ p kvs, v = .ref p ∧ H' p = some (.dK kvs) ∧ ∀ od, Q v (upd H' p (.frz od (.dK kvs)))
theorem ep_lock {pins : List (Addr × Obj)} {σ : L2.St} {Q : VK} {u : Value} {s : Shared} (h : EP X pins σ (lockQ Q) u s) : EP X pins σ Q u s := by
  obtain ⟨v, H', I, r, p, kvs, rfl, e, q⟩ := h
  obtain ⟨od, I2⟩ := I.lock e trivial
  exact ⟨_, _, I2, r, q od⟩
theorem pe_lockQ {e : Expr} {t : TE} (h : PE X e t) : PE X e (fun σ H Q => t σ H (lockQ Q)) := ⟨fun pins s σ H Q I q => thn (h.run pins s σ H _ I q) fun u s1 z => ep_lock z⟩
theorem callR_lockQ {f : Value} {r : List V → Hp → VK → Prop} (h : CallR X f r) : CallR X f (fun xs H Q => r xs H (lockQ Q)) := fun pins s σ H xs us Q I rv q => thn (h pins s σ H xs us _ I rv q) fun u s1 z => ep_lock z
theorem post_dict {K : PySem.W.Frag} {O : List (Option Addr)} {cs : Cs} {H : Hp} {Q : VK} {kvs : List (Key × V)} {ds : List (D × D)} (w : Wd K O cs H) (e : kvs.map (fun p => kD p.1) = ds.map (·.1)) (r : RpAll K (hd O H) (kvs.map (·.2)) (ds.map (·.2))) (h : PostX K O H (.dat (.dict ds)) cs Q) :
    ∀ p, H p = none → lockQ Q (.ref p) (upd H p (.dK kvs)) := fun p hp => by
  refine ⟨p, kvs, rfl, upd_same, fun od => ?_⟩
  have e2 : upd (upd H p (.dK kvs)) p (.frz od (.dK kvs)) = upd H p (.frz od (.dK kvs)) := by
    funext a
    by_cases c : a = p
    · subst c; rw [upd_same, upd_same]
    · rw [upd_ne c, upd_ne c, upd_ne c]
  rw [e2]
  exact h _ _ (ch_new hp) (w.new hp) (.dct (hd_of (w.fresh hp) upd_same) e (r.mono (ch_new hp).data))
/-! displays of constants -/
theorem xe_dict0 {pos : Pos} : XE X (xC (.dict [])) (.Dict [] [] pos) := pe_weak (pe_lockQ pe_dnewK) fun σ H Q ⟨ρ, O, cs, r', cs', e, en, w, p⟩ => by
  cases e
  exact post_dict (kvs := []) w rfl .nil p
theorem tPairs_c {σ : L2.St} {H : Hp} {Q : List (V × V) → Hp → Prop} : ∀ {kvs : List (Key × V)} {Q : List (V × V) → Hp → Prop}, Q (kvs.map fun p => (kV p.1, p.2)) H → tPairs (kvs.map fun p => (tC (kV p.1), tC p.2)) σ H Q
  | [], _, q => q
  | kv :: r, Q, q => by
    show tC (kV kv.1) σ H fun x H1 => tC kv.2 σ H1 fun y H2 => tPairs _ σ H2 fun ps H3 => Q ((x, y) :: ps) H3
    exact tPairs_c (kvs := r) (Q := fun ps H3 => Q ((kV kv.1, kv.2) :: ps) H3) q
theorem merge_nodup : ∀ {kvs acc : List (Key × V)}, ((acc ++ kvs).map (·.1)).Nodup → mergeK acc kvs = acc ++ kvs
  | [], acc, _ => (List.append_nil acc).symm
  | kv :: r, acc, h => by
    have hk : (acc.any fun p => decide (p.1 = kv.1)) = false := by
      rw [List.any_eq_false]
      intro p hp hq
      have := of_decide_eq_true hq
      rw [List.map_append, List.map_cons, List.nodup_append] at h
      exact h.2.2 p.1 (List.mem_map.mpr ⟨p, hp, rfl⟩) kv.1 (List.mem_cons_self ..) this
    show mergeK (putK acc kv.1 kv.2) r = _
    have e : putK acc kv.1 kv.2 = acc ++ [kv] := by
      unfold putK
      rw [if_neg (by rw [hk]; decide)]
    rw [e, merge_nodup (by rw [List.append_assoc]; exact h), List.append_assoc]
    rfl
/-- the pairs are constants -/
theorem xe_dictC {pos : Pos} {keys : List (Option Expr)} {values : List Expr} {kvs : List (Key × V)} {ds : List (D × D)} (h : PPs X pos keys values (kvs.map fun p => (tC (kV p.1), tC p.2))) (hall : keys.all (·.isSome) = true) (hl : keys.length = values.length) (h0 : keys ≠ [])
    (h15 : keys.length ≤ 15) (hk15 : kvs.length ≤ 15) (hn : (kvs.map (·.1)).Nodup) (e : kvs.map (fun p => kD p.1) = ds.map (·.1)) (r : ∀ K H, RpAll K H (kvs.map (·.2)) (ds.map (·.2))) : XE X (xC (.dict ds)) (.Dict keys values pos) :=
  pe_weak (pe_lockQ (pe_disp h hall hl h0 h15)) fun σ H Q ⟨ρ, O, cs, r', cs', e0, en, w, p⟩ => by
    cases e0
    intro q hq
    refine tPairs_c (Q := fun ps H2 => H2 q = some (.dK []) ∧ ∃ kvs : List (Key × V), ps = kvs.map (fun kv => (kV kv.1, kv.2)) ∧ kvs.length ≤ 15 ∧ lockQ Q (.ref q) (upd H2 q (.dK (mergeK [] kvs)))) ⟨upd_same, kvs, rfl, hk15, ?_⟩
    have e2 : upd (upd H q (.dK [])) q (.dK (mergeK [] kvs)) = upd H q (.dK kvs) := by
      rw [merge_nodup (by simpa using hn), List.nil_append]
      funext a
      by_cases c : a = q
      · subst c; rw [upd_same, upd_same]
      · rw [upd_ne c, upd_ne c, upd_ne c]
    rw [e2]
    exact post_dict w e (r _ _) p q hq
/-! d[k] -/
def keyOf : D → Option Key
  | .int i => some (.inl i)
  | .str x => some (.inr x)
  | _ => none
theorem keyOf_v {K : PySem.W.Frag} {O : List (Option Addr)} {H : Hp} {v : V} {d : D} {k : Key} (h : Sh K O H v d) (e : keyOf d = some k) : v = kV k ∧ d = kD k := by
  cases d with
  | int i => cases e; exact ⟨h.int, rfl⟩
  | str x => cases e; exact ⟨h.str.1, rfl⟩
  | _ => cases e
def eqK : D → Key → Bool
  | .int i, .inl j => decide (i = j)
  | .str x, .inr y => decide (x = y)
  | _, _ => false
theorem eqK_kD {k j : Key} : eqK (kD k) j = decide (k = j) := by
  cases k <;> cases j <;> simp [eqK, kD]
def look : List (D × D) → Key → Option D
  | [], _ => none
  | p :: r, k => if eqK p.1 k = true then some p.2 else look r k
theorem look_v {K : PySem.W.Frag} {H : Hp} {k : Key} : ∀ {kvs : List (Key × V)} {ds : List (D × D)} {d : D}, kvs.map (fun p => kD p.1) = ds.map (·.1) → RpAll K H (kvs.map (·.2)) (ds.map (·.2)) → look ds k = some d → ∃ v, valV kvs k = some v ∧ Rp K H v d
  | [], [], _, _, _, e => by cases e
  | kv :: r, p :: ds, d, e, q, l => by
    rw [List.map_cons, List.map_cons] at e q
    have e1 := (List.cons.inj e).1
    have e2 := (List.cons.inj e).2
    cases q with
    | cons a q =>
      unfold look at l
      rw [← e1, eqK_kD] at l
      by_cases c : kv.1 = k
      · rw [if_pos (decide_eq_true c)] at l
        cases l
        exact ⟨kv.2, valV_pos c, a⟩
      · rw [if_neg (by simpa using c)] at l
        rw [valV_neg c]
        exact look_v e2 q l
  | [], _ :: _, _, e, _, _ => by cases e
  | _ :: _, [], _, e, _, _ => by cases e
def dDGet : D → D → Option Rv
  | .dict ds, k => if isFn ds = true then none else (keyOf k).bind fun k => (look ds k).map .dat
  | _, _ => none
theorem xe_dget {o i : Expr} {fa fb : ME} {pos : Pos} (rm : Rm X) (ho : XE X fa o) (hi : XE X fb i) (hs : NoSl i := by exact fun _ _ => rfl) : XE X (mB dDGet fa fb) (.Subscript o i pos) :=
  pe_weak (pe_dget (by have := rm.un; omega) ho hi hs) fun σ H Q ⟨ρ, O, cs, z, cs', e, en, w, p⟩ => by
    obtain ⟨x, cs1, y, d, e', h1, h2, h3, h4, h5⟩ := mB_some e
    refine ⟨ρ, O, cs, x, cs1, h1, en, w, fun v1 H1 c1 w1 r1 => ?_⟩
    refine ⟨ρ, O, cs1, y, cs', h2, en.ch c1, w1, fun v2 H2 c2 w2 r2 => ?_⟩
    have sx := (r1.deg.ch c2).sh w2 h3
    have sy := r2.deg.sh w2 h4
    cases d with
    | dict ds =>
      have h5 : (if isFn ds = true then none else (keyOf e').bind fun k => (look ds k).map Rv.dat) = some z := h5
      by_cases hf : isFn ds = true
      · rw [if_pos hf] at h5; cases h5
      rw [if_neg hf] at h5
      obtain ⟨k, g1, g2⟩ := Option.bind_eq_some_iff.mp h5
      obtain ⟨t, g3, rfl⟩ := Option.map_eq_some_iff.mp g2
      obtain ⟨a, kvs, rfl, q, e1, r⟩ := sx.dict (by simpa using hf)
      obtain ⟨u, l1, l2⟩ := look_v e1 r g3
      exact ⟨a, u, rfl, .inl ⟨kvs, k, q, (keyOf_v sy g1).1, l1.symm⟩, post_val w2 l2 (p.step (c1.trans c2) w2)⟩
    | _ => cases h5
/-! dict(pairs) -/
def prOf : D → Option (Key × D)
  | .tuple [k, v] => (keyOf k).map fun k => (k, v)
  | _ => none
def prsOf : List D → Option (List (Key × D))
  | [] => some []
  | d :: r => (prOf d).bind fun p => (prsOf r).map fun ps => p :: ps
def dDict : List D → Option Rv
  | [.list ds] => (prsOf ds).bind fun ps => if (ps.map (·.1)).Nodup then some (.dat (.dict (ps.map fun p => (kD p.1, p.2)))) else none
  | _ => none
theorem prsOf_v {K : PySem.W.Frag} {O : List (Option Addr)} {H : Hp} : ∀ {ds : List D} {vs : List V} {ps : List (Key × D)}, RpAll K (hd O H) vs ds → prsOf ds = some ps →
    ∃ (as : List Addr) (kvs : List (Key × V)), vs = as.map V.ref ∧ Paired (fun p kv => SqT K H p [kV kv.1, kv.2]) as kvs ∧ kvs.map (·.1) = ps.map (·.1) ∧ RpAll K (hd O H) (kvs.map (·.2)) (ps.map (·.2))
  | [], vs, ps, r, e => by cases r; cases e; exact ⟨[], [], rfl, .nil, rfl, .nil⟩
  | d :: ds, vs, ps, r, e => by
    obtain ⟨p, h1, h2⟩ := Option.bind_eq_some_iff.mp e
    obtain ⟨qs, h3, h4⟩ := Option.map_eq_some_iff.mp h2
    subst h4
    cases r with
    | cons a t =>
      obtain ⟨as, kvs, e1, e2, e3, e4⟩ := prsOf_v t h3
      subst e1
      unfold prOf at h1
      split at h1
      · rename_i k v
        obtain ⟨k', g1, g2⟩ := Option.map_eq_some_iff.mp h1
        subst g2
        cases a with
        | tup q r2 =>
          cases r2 with
          | cons b1 r2 =>
            cases r2 with
            | cons b2 r2 =>
              cases r2
              rename_i ad u1 u2
              have ek := (keyOf_v (O := O) (.inl b1 : Sh K O H u1 k) g1).1
              refine ⟨ad :: as, (k', u2) :: kvs, rfl, .cons ?_ e2, by simp [e3], .cons b2 e4⟩
              rw [← ek]
              exact sqT_mono hd_le q
      · cases h1
theorem dictCS {K : PySem.W.Frag} : CaS K (fun xs H Q => ∃ (a : Addr) (ps : List Addr) (kvs : List (Key × V)), xs = [.ref a] ∧ SqL K H a (ps.map V.ref) ∧ Paired (fun p kv => SqT K H p [kV kv.1, kv.2]) ps kvs ∧
    ∀ p, H p = none → lockQ Q (.ref p) (upd H p (.dK (mergeK [] kvs)))) dDict := by
  intro O cs H vs ds z Q w hp g p
  match ds, g, hp with
  | [.list ds], g, hp =>
    obtain ⟨x, rfl, sx⟩ := Paired.one hp
    obtain ⟨ps, h1, g⟩ := Option.bind_eq_some_iff.mp g
    obtain ⟨hz, rfl⟩ := ite_some g
    obtain ⟨a, vs, rfl, q, r⟩ := sx.list
    obtain ⟨as, kvs, rfl, e2, e3, e4⟩ := prsOf_v r h1
    refine ⟨a, as, kvs, rfl, q.sq, e2, ?_⟩
    rw [merge_nodup (by rw [List.nil_append, e3]; exact hz), List.nil_append]
    refine post_dict w ?_ ?_ p
    · have : kvs.map (fun p => kD p.1) = (kvs.map (·.1)).map kD := by rw [List.map_map]; rfl
      rw [this, e3, List.map_map, List.map_map]
      rfl
    · rw [List.map_map]
      exact e4
theorem xe_dictP {e : Expr} {fa : MA} {p pos : Pos} (rm : Rm X) (hg : Gl X "dict") (hm : X.mg "dict" = none) (ha : XA X fa [e]) (he : starEach [e] X.env = (false, eval e X.env) :: starEach [] X.env := by rfl) : XE X (mCall dDict fa) (.Call (.Name "dict" p) [e] [] pos) :=
  xe_callTy (callR_lockQ (call_dictP rm.calm)) dictCS hg hm (by decide +kernel) ha (he := he)
end
end DL
namespace DL
open PySem PySem.Spec PyProof.Rows L2
/-! ### recursion: with fuel -/
def recM (n : Nat) (b : MF → MS) : Nat → MF
  | 0 => fun _ _ => none
  | i + 1 => fnM n (b (recM n b i))
theorem fnD_zero {P : Program} {w : World} {K : PySem.W.Frag} {mg : Str → Option Value} {base : Heap} {k : Nat} {f : Addr} {fd : FuncData} {ps : List Str} : FnD P w K mg base k f fd ps (fun _ _ => none) :=
  ⟨fun A outer s H args us vs Q rs O cs r cs' _ _ _ _ _ _ _ _ _ e _ => nomatch e⟩
theorem fnD_rec {P : Program} {w : World} {K : PySem.W.Frag} {mg : Str → Option Value} {base : Heap} {k : Nat} {f : Addr} {fd : FuncData} {ps : List Str} {n : Nat} {b : MF → MS}
    (step : ∀ (j : Nat) (m : MF), FnD P w K mg base (k + j) f fd ps m → FnD P w K mg base (k + j + 1) f fd ps (fnM n (b m))) : ∀ i : Nat, FnD P w K mg base (k + i) f fd ps (recM n b i)
  | 0 => fnD_zero
  | i + 1 => step i _ (fnD_rec step i)
/-! ### the end of a law -/
theorem hd_nil {H : Hp} : hd [] H = H := by
  funext a
  unfold hd
  rw [if_neg (by simp [live])]
theorem ints_rp {K : PySem.W.Frag} {H : Hp} : ∀ {ns : List Int}, RpAll K H (ns.map V.int) (ns.map PyData.int)
  | [] => .nil
  | n :: _ => .cons (.int n) ints_rp
/-- what is known of the heap when the law's def is called -/
structure Pre (s : Shared) (a : Addr) (vs : List Value) (ns : List Int) : Prop where
  nogen : s.gens = #[]
  scr : s.heap.get? a = some { cls := .type "list", data := .seq vs.toArray }
  areI : IntsAre vs ns
  fit : ns.length ≤ sizeLine
/-- the heap that the def sees -/
structure Seen (P : Program) (w : World) (K : PySem.W.Frag) (s : Shared) (a : Addr) (H : Hp) (ns : List Int) : Prop where
  only : Only H
  rp : Rp K H (.ref a) (.list (ns.map .int))
  ok : HOk P w H s.heap
  at_a : ∀ b, H b ≠ none → b = a
  unk : H a ≠ none → K.lookup a = none
def scrO (vs : List Value) : Obj := { cls := .type "list", data := .seq vs.toArray }
def oneH (a : Addr) (o : HO) : Hp := fun b => if b = a then some o else none
theorem oneH_at {a : Addr} {o : HO} : oneH a o a = some o := if_pos rfl
theorem oneH_cases {a b : Addr} {o u : HO} (h : oneH a o b = some u) : b = a ∧ u = o := by
  unfold oneH at h
  split at h
  · exact ⟨by assumption, (Option.some.inj h).symm⟩
  · cases h
theorem seen_of {P : Program} {w : World} {K : PySem.W.Frag} {s : Shared} {a : Addr} {vs : List Value} {ns : List Int} (KX : K.In s.heap) (p : Pre s a vs ns) : ∃ H, Seen P w K s a H ns := by
  have rv := vals_ints p.areI
  have hz : (ns.map V.int).length ≤ sizeLine := by rw [List.length_map]; exact p.fit
  cases hk : K.lookup a with
  | some o =>
    have e := (KX a o hk).symm.trans p.scr
    have e' : o = { cls := .type "list", data := .seq vs.toArray } := Option.some.inj e
    subst e'
    exact ⟨fun _ => none, fun _ => .inl rfl, .lst (.inr ⟨vs, _, hk, hz, rv⟩) ints_rp, (fun _ _ z => nomatch z), fun _ z => (z rfl).elim, fun z => (z rfl).elim⟩
  | none =>
    refine ⟨oneH a (.frz (scrO vs) (.lst (ns.map V.int))), fun b => ?_, .lst (.inl (.inr ⟨_, oneH_at⟩)) ints_rp, fun b u z => ?_, fun b z => ?_, fun _ => hk⟩
    · cases q : oneH a (.frz (scrO vs) (.lst (ns.map V.int))) b with
      | none => exact .inl rfl
      | some u => exact .inr ⟨_, _, by rw [(oneH_cases q).2]⟩
    · obtain ⟨e1, e2⟩ := oneH_cases z
      subst e1 e2
      exact ⟨p.scr, hz, vs, _, rv, p.scr⟩
    · cases q : oneH a (.frz (scrO vs) (.lst (ns.map V.int))) b with
      | none => exact absurd q z
      | some u => exact (oneH_cases q).1
section
variable {P : Program} {w : World} {K : PySem.W.Frag} {s : Shared} {a : Addr} {vs : List Value} {ns : List Int} {H : Hp}
theorem Seen.base (p : Pre s a vs ns) (S : Seen P w K s a H ns) {b : Addr} {m : Str → Option Value} (h : s.heap.Ns b m) : (hidT s.heap H).Ns b m := by
  obtain ⟨o, es, ep, e, d, r⟩ := h
  refine ⟨o, es, ep, hidT_get e ?_, d, r⟩
  cases q : H b with
  | none => rfl
  | some u =>
    have eb := S.at_a b (by rw [q]; exact nofun)
    rw [eb, p.scr] at e
    have e' := Option.some.inj e
    subst e'
    exact nomatch (show Data.seq vs.toArray _ = Data.dict es ep from d)
theorem Seen.kin (KX : K.In s.heap) (S : Seen P w K s a H ns) : K.In (hidT s.heap H) := fun b o e => hidT_get (KX b o e) (by
  cases q : H b with
  | none => rfl
  | some u =>
    have n0 : H b ≠ none := by rw [q]; exact nofun
    have eb := S.at_a b n0
    subst eb
    exact nomatch (S.unk n0).symm.trans e)
theorem Seen.env {mg mb : Str → Option Value} (KX : K.In s.heap) (p : Pre s a vs ns) (S : Seen P w K s a H ns) (hns : s.heap.Ns mainGlobals mg) (hb : s.heap.Ns builtinsNs mb) (hbb : ∀ x : Str, x ≠ "__name__" → mb x = bootBuiltins x) (hlim : s.heap.NoLimit) : Env0 P w K mg (hidT s.heap H) callerA [] s H := by
  refine ⟨rfl, ⟨S.kin KX, S.base p hns, ⟨mb, S.base p hb, hbb⟩, ?_⟩, fun _ _ => of_hidT, Nat.le_of_eq (hidT_size _ _), trivial, fun _ z => absurd z List.not_mem_nil, S.ok, .of_eq p.nogen⟩
  obtain ⟨mc, h1, h2⟩ := hlim
  exact ⟨mc, S.base p h1, h2⟩
end
theorem law_callD {P : Program} {w : World} {K : PySem.W.Frag} {mg mb : Str → Option Value} {k : Nat} {fa a : Addr} {fd : FuncData} {x : Str} {m : MF} {s : Shared} {vs : List Value} {ns : List Int}
    (KX : K.In s.heap) (hns : s.heap.Ns mainGlobals mg) (hb : s.heap.Ns builtinsNs mb) (hbb : ∀ x : Str, x ≠ "__name__" → mb x = bootBuiltins x) (hlim : s.heap.NoLimit) (hnd : s.heap.NoDigits) (p : Pre s a vs ns) (hr : Room k callerA)
    (F : ∀ base : Heap, K.In base → base.Ns mainGlobals mg → FnD P w K mg base k fa fd [x] m) (hbind : ∀ (s : Shared) (u : Value), BindsTo s fd ⟨[u], []⟩ [(x, u)]) (hm : m [.dat (.list (ns.map .int))] [] = some (.dat (.bool true), [])) :
    codeAny (model P w) callerA (.call (.ref fa) ⟨[.ref a], []⟩) (fun r t => r = .ok (.ret (.bool true)) ∧ OldK s.heap t.heap ∧ t.os = s.os ∧ AllBare t.gens) s := by
  obtain ⟨H, S⟩ := seen_of (P := P) (w := w) KX p
  have nd : (hidT s.heap H).NoDigits := by
    obtain ⟨mc, h1, h2⟩ := hnd
    exact ⟨mc, S.base p h1, h2⟩
  have wd : Wd K [] [] H := ⟨rfl, fun _ _ _ h => by simp at h, fun _ _ h => by simp at h, fun _ h => by simp at h⟩
  have ar : ArRs K [] H [.dat (.list (ns.map .int))] [.ref a] := ⟨by show Rp K (hd [] H) _ _; rw [hd_nil]; exact S.rp, trivial⟩
  refine codeAny_mono ((F _ (S.kin KX) (S.base p hns)).run callerA [] s H ⟨[.ref a], []⟩ [.ref a] [.ref a] (fun v _ => v = .bl true) _ [] [] _ _ rfl nd hr (S.env KX p hns hb hbb hlim) (hbind s (.ref a)) (.cons rfl .nil) rfl wd ar hm fun v H' _ _ rv => ?_) fun r t h => ?_
  · have rv' : Rp K (hd [] H') v (.bool true) := rv
    cases rv'
    rfl
  · cases r with
    | error e => exact False.elim h
    | ok fl =>
      cases fl with
      | ret u =>
        obtain ⟨v, H', os, bare, un, ok', ru, ev⟩ := h
        have ev' : v = .bl true := ev
        subst ev'
        cases (show u = Value.bool true from ru)
        refine ⟨rfl, OldK.of_keep fun b o e => ?_, os, bare⟩
        cases q : H b with
        | none => exact un.keep b o e q (fun z => absurd z List.not_mem_nil) (by simp)
        | some t =>
          rcases S.only b with z | ⟨ob, xs, z⟩
          · exact nomatch q.symm.trans z
          · have e1 := (S.ok b _ z).1
            have e2 := (ok' b _ (un.frzs b ob _ z)).1
            rw [Option.some.inj (e.symm.trans e1)]
            exact e2
      | next => exact False.elim h
      | brk => exact False.elim h
      | cont => exact False.elim h
/-- the law's walk, from its mirror -/
theorem walk_ofD {l : PySem.W.OpenLaw} {n k : Nat} {q : Program} {loose : List Str} {XP : (Str → Option Value) → Heap → Prop} {YP : World → Heap → Prop} {d : DefRec} {x : Str} {m : MF}
    (hn : l.most = some n) (hn2 : n ≤ sizeLine) (hdf : d.params.defaults = []) (hr : Room k callerA)
    (F : ∀ (w : World) (mg : Str → Option Value) (fa : Addr) (h : Heap), YP w h → h.Ns mainGlobals mg → mg d.name = some (.ref fa) →
      ∃ (K : PySem.W.Frag) (fd : FuncData), K.In h ∧ (∀ (s : Shared) (u : Value), BindsTo s fd ⟨[u], []⟩ [(x, u)]) ∧ ∀ base : Heap, K.In base → base.Ns mainGlobals mg → FnD l.prog w K mg base k fa fd [x] m)
    (hm : ∀ ns : List Int, ns.length ≤ n → (∀ z ∈ ns, Builtin.Int.intBits z ≤ 1048576) → m [.dat (.list (ns.map .int))] [] = some (.dat (.bool true), [])) :
    PySem.W.WalkO q loose XP YP l.row.toRowW d [] (fun f vs => PySem.call f vs) := by
  refine Att.attach_callB hn hdf fun w s₀ s mg mb fa o pm cd doc a vs ns G Y _ _ _ hmg hobj hints hlen hbits hg => ?_
  obtain ⟨K, fd, KX, hb, hF⟩ := F w mg fa _ Y G.T.g hmg
  exact law_callD KX G.T.g G.T.b G.T.builtins G.T.nolimit G.T.nodigits ⟨hg, hobj, hints, Nat.le_trans hlen hn2⟩ hr hF hb (hm ns hlen hbits)
end DL
namespace DL
open PySem PySem.Spec PyProof.Rows L2
section
variable {X : Cx}
theorem Rm.blk (rm : Rm X) {s : Shared} {H : Hp} {sc : Scope} {ce : Env} {fp : List Addr} : Rm (X.blk s H sc ce fp) := ⟨rm.hd, rm.un, rm.gd, rm.calm, rm.nd⟩
/-- a def, ready to be called -/
structure Cal (P : Program) (w : World) (K : PySem.W.Frag) (mg : Str → Option Value) (base : Heap) (k : Nat) (x : Str) (st : Stmt) (ps : List Str) (m : MF) : Prop where
  ex : ∃ (f : Addr) (fd : FuncData), FunD K x x (defArgs st) (defBody st) (defScope st) [] [] f fd ∧ FnD P w K mg base k f fd ps m ∧ mg x = some (.ref f) ∧ Binds K fd ps []
variable {k j : Nat} {x : Str} {st : Stmt} {ps : List Str} {m : MF}
theorem w_call {n : Nat} {e : Expr} {es : List Expr} {fa : MA} {p pos : Pos} (C : Cal X.prog X.w X.K X.mg X.base j x st ps m) (hr : Room k X.A) (rm : Rm X) (ha : XA X fa (e :: es)) (hj : j ≤ k := by decide) (hg : Gl X x := by rfl) (hdb : (x == ("__debug__" : Str)) = false := by decide)
    (he : starEach (e :: es) X.env = (false, eval e X.env) :: starEach es X.env := by rfl) (hpl : (backTo pos (starEach es X.env)).any (·.1) = false := by rfl) (hn : ps.length = n := by rfl) : XE X (mCallF n m fa) (.Call (.Name x p) (e :: es) [] pos) := by
  subst hn
  obtain ⟨f, fd, F, G, hm, hb⟩ := C.ex
  exact xe_call G (hr.mono hj) rm hg hm F.kp hb ha hdb he hpl
theorem w_call0 {n : Nat} {p pos : Pos} (C : Cal X.prog X.w X.K X.mg X.base j x st ps m) (hr : Room k X.A) (rm : Rm X) (hj : j ≤ k := by decide) (hg : Gl X x := by rfl) (hdb : (x == ("__debug__" : Str)) = false := by decide) (hn : ps.length = n := by rfl) : XE X (mCallF n m aNil) (.Call (.Name x p) [] [] pos) := by
  subst hn
  obtain ⟨f, fd, F, G, hm, hb⟩ := C.ex
  exact xe_call0 G (hr.mono hj) rm hg hm F.kp hb hdb
/-- the binding by keywords, as it computes -/
def KwC (x : Str) (st : Stmt) (ps : List Str) (n : Nat) (ks : List Str) (π : List Nat) : Prop := ∀ (kV doc pm : Value) (an : Option Addr) (cdv ct : Value) (us ws : List Value), us.length = n → ws.length = ks.length →
  bindArgs (PySem.W.fnOf x x (defArgs st) (defBody st) (defScope st) .none kV doc pm an cdv ct) ⟨us, ks.zip ws⟩ = pure (ps.zip (pick π (us ++ ws)))
theorem kwB_of {K : PySem.W.Frag} {f : Addr} {fd : FuncData} {n : Nat} {ks : List Str} {π : List Nat} (F : FunD K x x (defArgs st) (defBody st) (defScope st) [] [] f fd) (h : KwC x st ps n ks π) : KwB K fd ps n ks π := by
  obtain ⟨oc, od, dV, kV, doc, pm, an, cdv, ct, osl, rfl, lk, hcd, hD, hK⟩ := F.ex
  rcases hD with ⟨_, rfl⟩ | ⟨e, _⟩
  · exact ⟨fun s us ws _ h1 h2 => .of_eq (h kV doc pm an cdv ct us ws h1 h2)⟩
  · exact absurd rfl e
theorem w_callK {n n1 n2 : Nat} {ks : List Str} {π : List Nat} {e : Expr} {es : List Expr} {kws : List Keyword} {fa fk : MA} {p pos : Pos} (C : Cal X.prog X.w X.K X.mg X.base j x st ps m) (hr : Room k X.A) (rm : Rm X) (hb : KwC x st ps n ks π) (ha : XA X fa (e :: es)) (hkw : XK X fk kws) (hj : j ≤ k := by decide) (hg : Gl X x := by rfl)
    (hall : (backToKw pos (keywordEach kws X.env)).all (·.1.isSome) = true := by rfl) (hks : (backToKw pos (keywordEach kws X.env)).filterMap (·.1) = ks := by rfl)
    (hdb : (x == ("__debug__" : Str)) = false := by decide) (he : starEach (e :: es) X.env = (false, eval e X.env) :: starEach es X.env := by rfl)
    (hpl : ((backTo pos (starEach (e :: es) X.env)).any (·.1) || (backToKw pos (keywordEach kws X.env)).any (·.1.isNone)) = false := by rfl) (e1 : ks.length = n1 := by rfl) (e2 : ps.length = n2 := by rfl) : XE X (mCallK n n1 n2 π m fa fk) (.Call (.Name x p) (e :: es) kws pos) := by
  subst e1 e2
  obtain ⟨f, fd, F, G, hm, _⟩ := C.ex
  exact xe_callK G (hr.mono hj) rm hg hm F.kp (kwB_of F hb) ha hkw hall hks hdb he hpl
theorem w_callK0 {n1 n2 : Nat} {ks : List Str} {π : List Nat} {kws : List Keyword} {fk : MA} {p pos : Pos} (C : Cal X.prog X.w X.K X.mg X.base j x st ps m) (hr : Room k X.A) (rm : Rm X) (hb : KwC x st ps 0 ks π) (hkw : XK X fk kws) (hj : j ≤ k := by decide) (hg : Gl X x := by rfl)
    (hall : (backToKw pos (keywordEach kws X.env)).all (·.1.isSome) = true := by rfl) (hks : (backToKw pos (keywordEach kws X.env)).filterMap (·.1) = ks := by rfl)
    (hdb : (x == ("__debug__" : Str)) = false := by decide)
    (hpl : ((backTo pos (starEach [] X.env)).any (·.1) || (backToKw pos (keywordEach kws X.env)).any (·.1.isNone)) = false := by rfl) (e1 : ks.length = n1 := by rfl) (e2 : ps.length = n2 := by rfl) : XE X (mCallK 0 n1 n2 π m aNil fk) (.Call (.Name x p) [] kws pos) := by
  subst e1 e2
  obtain ⟨f, fd, F, G, hm, _⟩ := C.ex
  exact xe_callK0 G (hr.mono hj) rm hg hm F.kp (kwB_of F hb) hkw hall hks hdb hpl
/-- a def's own contract -/
theorem cal_of {P : Program} {w : World} {K : PySem.W.Frag} {mg : Str → Option Value} {base : Heap} {N : List Str} {b : MS} (F : ∃ f fd, FunD K x x (defArgs st) (defBody st) (defScope st) [] [] f fd ∧ mg x = some (.ref f)) (S : FnScope N ps (defScope st))
    (hb : ∀ (kV doc pm : Value) (an : Option Addr) (cdv ct : Value) (us : List Value), us.length = ps.length → bindArgs (PySem.W.fnOf x x (defArgs st) (defBody st) (defScope st) .none kV doc pm an cdv ct) ⟨us, []⟩ = pure (ps.zip us))
    (h : ∀ (f : Addr) (cdv : Value) (A : Around) (outer : List Env) (s : Shared) (H : Hp), Room k (A.deeper (envOfC x (defScope st) s.heap.objs.size f cdv)) → Rm (cxD P w K mg base N x (defScope st) f cdv A outer s H) → XSs (cxD P w K mg base N x (defScope st) f cdv A outer s H) b (defBody st)) :
    Cal P w K mg base (k + 1) x st ps (fnM N.length b) := by
  obtain ⟨f, fd, F, hm⟩ := F
  exact ⟨f, fd, F, fnD_of F S fun cdv A outer s H hr rm => h f cdv A outer s H hr rm, hm, F.bindsN hb⟩
theorem Cal.mono {P : Program} {w : World} {K : PySem.W.Frag} {mg : Str → Option Value} {base : Heap} {i : Nat} (C : Cal P w K mg base k x st ps m) (h : k ≤ i) : Cal P w K mg base i x st ps m := by
  obtain ⟨f, fd, F, G, hm, hb⟩ := C.ex
  exact ⟨f, fd, F, G.mono h, hm, hb⟩
/-- a def that calls itself: fuel i -/
theorem cal_rec {P : Program} {w : World} {K : PySem.W.Frag} {mg : Str → Option Value} {base : Heap} {N : List Str} {b : MF → MS} (i : Nat) (F : ∃ f fd, FunD K x x (defArgs st) (defBody st) (defScope st) [] [] f fd ∧ mg x = some (.ref f)) (S : FnScope N ps (defScope st))
    (hb : ∀ (kV doc pm : Value) (an : Option Addr) (cdv ct : Value) (us : List Value), us.length = ps.length → bindArgs (PySem.W.fnOf x x (defArgs st) (defBody st) (defScope st) .none kV doc pm an cdv ct) ⟨us, []⟩ = pure (ps.zip us))
    (h : ∀ (l : Nat) (m : MF), Cal P w K mg base (k + l) x st ps m → ∀ (f : Addr) (cdv : Value) (A : Around) (outer : List Env) (s : Shared) (H : Hp), Room (k + l) (A.deeper (envOfC x (defScope st) s.heap.objs.size f cdv)) → Rm (cxD P w K mg base N x (defScope st) f cdv A outer s H) → XSs (cxD P w K mg base N x (defScope st) f cdv A outer s H) (b m) (defBody st)) :
    Cal P w K mg base (k + i) x st ps (recM N.length b i) := by
  obtain ⟨f, fd, F, hm⟩ := F
  exact ⟨f, fd, F, fnD_rec (fun l m G => fnD_of F S fun cdv A outer s H hr rm => h l m ⟨f, fd, F, G, hm, F.bindsN hb⟩ f cdv A outer s H hr rm) i, hm, F.bindsN hb⟩
/-! words: what is seen of the text is found by rfl -/
theorem w_var (i : Nat) {pos : Pos} (hN : X.N[i]? = some x := by rfl) (hv : Vis X.env.scope x := by first | exact Or.inl rfl | exact Or.inr (Or.inl rfl) | exact Or.inr (Or.inr rfl)) (hd : (x == ("__debug__" : Str)) = false := by decide) (hcd : (x == ("__classdict__" : Str)) = false := by decide) : XE X (xVar i) (.Name x pos) := xe_var hN hv hd hcd
theorem w_gint {i : Int} {pos : Pos} (hm : ∃ t, X.mg x = some (.int i t)) (hg : Gl X x := by rfl) (hd : (x == ("__debug__" : Str)) = false := by decide) : XE X (xC (.int i)) (.Name x pos) := by
  obtain ⟨t, ht⟩ := hm
  exact xe_gint hg ht hd
theorem w_gstr {z : Str} {pos : Pos} (hm : ∃ t, X.mg x = some (.str z t)) (hg : Gl X x := by rfl) (hd : (x == ("__debug__" : Str)) = false := by decide) (h : z.length ≤ sizeLine := by decide +kernel) : XE X (xC (.str z)) (.Name x pos) := by
  obtain ⟨t, ht⟩ := hm
  exact xe_gstr hg ht hd h
theorem w_set (i : Nat) {e : Expr} {f : ME} {pos pos' : Pos} (hN : X.N.Nodup) (he : XE X f e) (hi : X.N[i]? = some x := by rfl) (hx : Loc X.env.scope x := by first | exact Or.inl rfl | exact Or.inr rfl) (hs : swapsWith e (some (.Name x pos')) pos.line X.env = pure false := by rfl)
    (hf : X.fn x = true ∨ X.env.scope.names.lookup x = some .local := by first | exact .inl rfl | exact .inr rfl) : XS X (sSet i f) (.Assign [.Name x pos'] e pos) := xs_set hN hi hx he hs hf
theorem w_own (i : Nat) {e : Expr} {f : ME} {pos pos' : Pos} (hN : X.N.Nodup) (he : XE X f e) (hi : X.N[i]? = some x := by rfl) (hx : Loc X.env.scope x := by first | exact Or.inl rfl | exact Or.inr rfl) (hs : swapsWith e (some (.Name x pos')) pos.line X.env = pure false := by rfl)
    (hf : X.fn x = true ∨ X.env.scope.names.lookup x = some .local := by first | exact .inl rfl | exact .inr rfl) : XS X (sOwn i f) (.Assign [.Name x pos'] e pos) := xs_own hN hi hx he hs hf
theorem w_gn (i : Nat) {pos : Pos} {vs : List Nat} (hN : X.N.Nodup) (hi : X.N[i]? = some x := by rfl) (hx : Loc X.env.scope x := by first | exact Or.inl rfl | exact Or.inr rfl) (hm : i ∈ vs := by simp) (hf : X.fn x = true ∨ X.env.scope.names.lookup x = some .local := by first | exact .inl rfl | exact .inr rfl) : XG X vs (gNm i) (.Name x pos) :=
  xg_name hN hi hx hm hf
theorem w_app (i : Nat) {e : Expr} {fe : ME} {p1 apos cpos pos : Pos} (he : XE X fe e) (hN : X.N[i]? = some x := by rfl) (hv : Vis X.env.scope x := by first | exact Or.inl rfl | exact Or.inr (Or.inl rfl) | exact Or.inr (Or.inr rfl))
    (hs : starEach [e] X.env = (false, eval e X.env) :: starEach [] X.env := by rfl)
    (hbase : attributeBase (.Name x p1) "append" X.env (eval (.Name x p1) X.env) = eval (.Name x p1) X.env := by rfl)
    (hfew : ((backTo cpos (starEach [e] X.env)).all (fun x => !x.1) && (backToKw cpos (keywordEach [] X.env)).all (fun x => x.1.isSome)
      && decide ([e].length + ([] : List Keyword).length + (if ([] : List Keyword).isEmpty then 0 else 1) < 30)) = true := by rfl)
    (hline : (apos.endLine == cpos.line) = true := by rfl) (hplain : (backTo cpos (starEach [] X.env)).any (·.1) = false := by rfl)
    (hsw : swapsWith (.Call (.Attribute (.Name x p1) "append" apos) [e] [] cpos) none pos.line X.env = pure false := by rfl)
    (hd : (x == ("__debug__" : Str)) = false := by decide) (hcd : (x == ("__classdict__" : Str)) = false := by decide) :
    XS X (sApp i fe) (.Expr (.Call (.Attribute (.Name x p1) "append" apos) [e] [] cpos) pos) := xs_app hN hv he hs hbase hfew hline hplain hsw hd hcd
theorem w_put (n : Nat) {i e : Expr} {fi fe : ME} {p1 p2 pos : Pos} (hi : XE X fi i) (he : XE X fe e) (hN : X.N[n]? = some x := by rfl) (hv : Vis X.env.scope x := by first | exact Or.inl rfl | exact Or.inr (Or.inl rfl) | exact Or.inr (Or.inr rfl))
    (ha : ∀ v, assign (.Subscript (.Name x p1) i p2) X.env v = (do
      let ov ← holding [v] (eval (.Name x p1) X.env)
      let iv ← holding [v, ov] (eval i X.env)
      standAt p2
      holding [v, ov, iv] (setItem ov iv v)
      release [v, ov, iv] []) := by intro _; rfl)
    (hs : swapsWithSole [.Subscript (.Name x p1) i p2] e pos.line X.env = pure false := by rfl) (hw : swappedStores [.Subscript (.Name x p1) i p2] e X.env = pure none := by rfl)
    (h1 : (assignEach [.Subscript (.Name x p1) i p2] X.env).map (·.2) = [assign (.Subscript (.Name x p1) i p2) X.env] := by rfl)
    (hd : (x == ("__debug__" : Str)) = false := by decide) (hcd : (x == ("__classdict__" : Str)) = false := by decide) :
    XS X (sPut n fi fe) (.Assign [.Subscript (.Name x p1) i p2] e pos) := xs_put hN hv hi he ha hs hw h1 hd hcd
theorem w_for (ws : List Nat) {tg iter : Expr} {body : List Stmt} {f : MI} {g : MG} {b : MS} {pos : Pos} (hi : XI X f tg iter) (hg : XG X ws g tg) (hb : XSs X b body) (hp : PassesOwn (model X.prog X.w) X.A X.env X.xe := by exact PassesOwn.never) (hc : X.calm = true := by rfl)
    (hs : ∀ x, foldedSetIterable iter X.env x = pure x := by intro _; rfl) : XS X (sFor f g b) (.For tg iter body [] pos) := xs_for hp hc hi hg hb hs
theorem w_while {c : Expr} {body : List Stmt} {t : MT} {b : MS} {pos : Pos} (hc : XT X t c) (hb : XSs X b body) (hp : PassesOwn (model X.prog X.w) X.A X.env X.xe := by exact PassesOwn.never) : XS X (sWh t b) (.While c body [] pos) := xs_while hp hc hb
end
end DL
namespace DL
open PySem PySem.Spec PyProof.Rows L2
section
variable {X : Cx}
/-! ### arguments some of which become owned cells at once -/
def tXAo (K : PySem.W.Frag) (f : MA) : TA := fun σ H Q => ∃ ρ O cs rs cs', f ρ cs = some (rs, cs') ∧ EnvOk K O H ρ σ ∧ Wd K O cs H ∧ ∀ vs O' H', Ext O.length O O' H → Ch O H H' → Wd K O' cs' H' → ArRs K O' H' rs vs → Q vs H'
def XAo (X : Cx) (f : MA) (es : List Expr) : Prop := PA X es (tXAo X.K f)
theorem ArR.extO {K : PySem.W.Frag} {O O' : List (Option Addr)} {H H' : Hp} {r : Rv} {v : V} (e : Ext O.length O O' H) (c : Ch O H H') (h : ArR K O r v H) : ArR K O' r v H' := by
  cases r with
  | dat d => exact Rp.mono (Sub.of e c) h
  | own k =>
    obtain ⟨a, ev, q⟩ := h
    exact ⟨a, ev, by rw [e.pre k (List.getElem?_eq_some_iff.mp q).1]; exact q⟩
  | fr c => exact h.elim
  | exn nm d => exact ExAt.mono (Sub.of e c) h
  | ft d => exact h.elim
  | gr d k n => exact h.mono (fun i hi => e.pre i hi) (Sub.of e c)
theorem EnvOk.extO {K : PySem.W.Frag} {O O' : List (Option Addr)} {H H' : Hp} {ρ : Rho} {σ : L2.St} (en : EnvOk K O H ρ σ) (e : Ext O.length O O' H) (c : Ch O H H') : EnvOk K O' H' ρ σ :=
  ⟨en.len, fun i r h => let ⟨v, h1, h2⟩ := en.slot i r h; ⟨v, h1, h2.extO e c⟩⟩
theorem Ext.low {n m : Nat} {O O' : List (Option Addr)} {H : Hp} (e : Ext n O O' H) (h : m ≤ n) : Ext m O O' H := ⟨fun i hi => e.pre i (by omega), e.sub⟩
theorem xao_nil : XAo X aNil [] := pa_weak pa_nil fun σ H Q ⟨ρ, O, cs, rs, cs', e, en, w, p⟩ => by
  cases e
  exact p [] O H .refl .refl w trivial
/-- an item that is data -/
def aDat (fa : ME) (fr : MA) : MA := fun ρ cs => (fa ρ cs).bind fun p => match deg p.1 with
  | .dat d => (fr ρ p.2).map fun q => (.dat d :: q.1, q.2)
  | _ => none
/-- an item that is a fresh list: an owned cell -/
def aOwn (fa : ME) (fr : MA) : MA := fun ρ cs => (fa ρ cs).bind fun p => match p.1 with
  | .fr c => (fr ρ (p.2 ++ [some c])).map fun q => (.own p.2.length :: q.1, q.2)
  | _ => none
theorem xao_dat {e : Expr} {es : List Expr} {fa : ME} {fr : MA} (ha : XE X fa e) (hr : XAo X fr es) (hs : starEach (e :: es) X.env = (false, eval e X.env) :: starEach es X.env := by rfl) : XAo X (aDat fa fr) (e :: es) :=
  pa_weak (pa_cons ha hr hs) fun σ H Q ⟨ρ, O, cs, rs, cs', e0, en, w, p⟩ => by
    obtain ⟨⟨x, cs1⟩, h1, e1⟩ := Option.bind_eq_some_iff.mp e0
    refine ⟨ρ, O, cs, x, cs1, h1, en, w, fun v1 H1 c1 w1 r1 => ?_⟩
    have rr := r1.deg
    dsimp only at e1
    split at e1
    · rename_i d hd'
      obtain ⟨⟨r, cs2⟩, h2, e2⟩ := Option.map_eq_some_iff.mp e1
      cases e2
      rw [hd'] at rr
      exact ⟨ρ, O, cs1, r, cs2, h2, en.ch c1, w1, fun vs O' H2 e2 c2 w2 r2 => p _ O' H2 (Ext.refl.trans w w1 c1 e2) (c1.trans c2) w2 ⟨rr.extO e2 c2, r2⟩⟩
    · cases e1
theorem xao_own {e : Expr} {es : List Expr} {fa : ME} {fr : MA} (ha : XE X fa e) (hr : XAo X fr es) (hs : starEach (e :: es) X.env = (false, eval e X.env) :: starEach es X.env := by rfl) : XAo X (aOwn fa fr) (e :: es) :=
  pa_weak (pa_cons ha hr hs) fun σ H Q ⟨ρ, O, cs, rs, cs', e0, en, w, p⟩ => by
    obtain ⟨⟨x, cs1⟩, h1, e1⟩ := Option.bind_eq_some_iff.mp e0
    refine ⟨ρ, O, cs, x, cs1, h1, en, w, fun v1 H1 c1 w1 r1 => ?_⟩
    cases x with
    | fr l =>
      obtain ⟨⟨r, cs2⟩, h2, e2⟩ := Option.map_eq_some_iff.mp e1
      cases e2
      obtain ⟨q, rfl, hq, w2⟩ := r1
      have ex : Ext O.length O (O ++ [some q]) H := ext_new (K := X.K) (Nat.le_refl _) hq
      refine ⟨ρ, O ++ [some q], cs1 ++ [some l], r, cs2, h2, en.extO ex c1, w2, fun vs O' H2 e2 c2 w3 r2 => ?_⟩
      have e2' : Ext O.length (O ++ [some q]) O' H1 := e2.low (by simp)
      refine p _ O' H2 (ex.trans w w2 c1 e2') (c1.ext ex c2) w3 ⟨⟨q, rfl, ?_⟩, r2⟩
      rw [e2.pre _ (by rw [w1.len]; simp), w1.len]
      simp
    | _ => cases e1
/-- a, b = x, y -/
def sParO (i j : Nat) (fa : MA) : MS := fun _ ρ cs => (fa ρ cs).bind fun p => match p.1 with
  | [r, t] => some (.nx ((ρ.set i (some r)).set j (some t)) p.2)
  | _ => none
def sPar3 (i j l : Nat) (fa : MA) : MS := fun _ ρ cs => (fa ρ cs).bind fun p => match p.1 with
  | [r, t, u] => some (.nx (((ρ.set i (some r)).set j (some t)).set l (some u)) p.2)
  | _ => none
theorem xs_parO {i j : Nat} {x y : Str} {a b : Expr} {fa : MA} {px py pt pos : Pos} {kt k2 pt2} (hc : X.calm = true) (hN : X.N.Nodup) (ha : XAo X fa [a, b]) (hi : X.N[i]? = some x := by rfl) (hj : X.N[j]? = some y := by rfl) (hij : i ≠ j := by decide)
    (hx : X.env.scope.names.lookup x = some .local := by rfl) (hy : X.env.scope.names.lookup y = some .local := by rfl)
    (hw : swappedStores [.Tuple [.Name x px, .Name y py] kt pt] (.Tuple [a, b] k2 pt2) X.env = pure (some [x, y]) := by rfl)
    (hs : swapsWithSole [.Tuple [.Name x px, .Name y py] kt pt] (.Tuple [a, b] k2 pt2) pos.line X.env = pure false := by rfl) :
    XS X (sParO i j fa) (.Assign [.Tuple [.Name x px, .Name y py] kt pt] (.Tuple [a, b] k2 pt2) pos) :=
  ps_weak (ps_par hc hN hi hj hij hx hy ha hw hs) fun D σ H ⟨n0, ρ, O, cs, out, e0, hn, en, w, p⟩ => by
    obtain ⟨⟨rs, cs1⟩, h1, h2⟩ := Option.bind_eq_some_iff.mp e0
    refine ⟨ρ, O, cs, rs, cs1, h1, en, w, fun vs O' H' e c w' ra => ?_⟩
    dsimp only at h2
    split at h2
    · rename_i _ d t
      cases h2
      match vs, ra with
      | [v, u], ra => exact ⟨v, u, rfl, p _ O' H' (e.low hn) c (((en.extO e c).set i ra.1).set j ra.2.1) w'⟩
      | [], ra => exact ra.elim
      | [_], ra => exact ra.2.elim
      | _ :: _ :: _ :: _, ra => exact ra.2.2.elim
    · cases h2
theorem xs_par3 {i j l : Nat} {x y z : Str} {a b c : Expr} {fa : MA} {px py pz pt pos : Pos} {kt k2 pt2} (hc : X.calm = true) (hN : X.N.Nodup) (ha : XAo X fa [a, b, c]) (hi : X.N[i]? = some x := by rfl) (hj : X.N[j]? = some y := by rfl) (hl : X.N[l]? = some z := by rfl)
    (hij : i ≠ j := by decide) (hil : i ≠ l := by decide) (hjl : j ≠ l := by decide) (hx : X.env.scope.names.lookup x = some .local := by rfl) (hy : X.env.scope.names.lookup y = some .local := by rfl) (hz : X.env.scope.names.lookup z = some .local := by rfl)
    (hw : swappedStores [.Tuple [.Name x px, .Name y py, .Name z pz] kt pt] (.Tuple [a, b, c] k2 pt2) X.env = pure (some [x, y, z]) := by rfl)
    (hs : swapsWithSole [.Tuple [.Name x px, .Name y py, .Name z pz] kt pt] (.Tuple [a, b, c] k2 pt2) pos.line X.env = pure false := by rfl) :
    XS X (sPar3 i j l fa) (.Assign [.Tuple [.Name x px, .Name y py, .Name z pz] kt pt] (.Tuple [a, b, c] k2 pt2) pos) :=
  ps_weak (ps_par3 hc hN hi hj hl hij hil hjl hx hy hz ha hw hs) fun D σ H ⟨n0, ρ, O, cs, out, e0, hn, en, w, p⟩ => by
    obtain ⟨⟨rs, cs1⟩, h1, h2⟩ := Option.bind_eq_some_iff.mp e0
    refine ⟨ρ, O, cs, rs, cs1, h1, en, w, fun vs O' H' e c w' ra => ?_⟩
    dsimp only at h2
    split at h2
    · cases h2
      match vs, ra with
      | [v, u, t], ra => exact ⟨v, u, t, rfl, p _ O' H' (e.low hn) c ((((en.extO e c).set i ra.1).set j ra.2.1).set l ra.2.2.1) w'⟩
      | [], ra => exact ra.elim
      | [_], ra => exact ra.2.elim
      | [_, _], ra => exact ra.2.2.elim
      | _ :: _ :: _ :: _ :: _, ra => exact ra.2.2.2.elim
    · cases h2
/-! ### all, any of a list -/
def fitB : D → Bool
  | .str x => decide (x.length ≤ sizeLine)
  | .list xs => decide (xs.length ≤ sizeLine)
  | .tuple xs => decide (xs.length ≤ sizeLine)
  | _ => true
theorem fitB_ok {d : D} (h : fitB d = true) : d.fits63 := by
  have key : ∀ {n : Nat}, n ≤ sizeLine → (n : Int) < 2 ^ 63 := fun {n} h => by rw [sizeLine_eq] at h; omega
  cases d with
  | str x => exact key (of_decide_eq_true h)
  | list x => exact key (of_decide_eq_true h)
  | tuple x => exact key (of_decide_eq_true h)
  | _ => trivial
def allOk (ds : List D) : Bool := PyData.plainAll ds && ds.all fitB
def rAllD (K : PySem.W.Frag) (g : List D → Bool) : List V → Hp → VK → Prop := fun xs H Q => ∃ (a : Addr) (vs : List V) (ds : List D), xs = [.ref a] ∧ SqL K H a vs ∧ RpAll K H vs ds ∧ allOk ds = true ∧ Q (.bl (g ds)) H
theorem call_allD (rm : Rm X) : CallR X (.builtin "all") (rAllD X.K fun ds => ds.all PyData.truthy) := by
  intro pins s σ H xs us Q I r h
  obtain ⟨a, vs, ds, rfl, hs, hr, ok, q⟩ := h
  obtain ⟨o1, o2⟩ := Bool.and_eq_true_iff.mp ok
  obtain ⟨its, rv, pl, hz⟩ := I.list hs
  rw [Vals.ref1 r]
  obtain ⟨as, rd⟩ := RpAll.reads I hr (noFs_plain o1) its rv
  exact PySem.W.all_list_data (vs := its.toArray) (I.ok.hd rm.calm) pl.isList (by simpa using rd) o1 (fun x hx => fitB_ok (List.all_eq_true.mp o2 x hx)) fun h' tk k => ⟨.bl _, H, I.kept k, rfl, q⟩
theorem call_anyD (rm : Rm X) : CallR X (.builtin "any") (rAllD X.K fun ds => ds.any PyData.truthy) := by
  intro pins s σ H xs us Q I r h
  obtain ⟨a, vs, ds, rfl, hs, hr, ok, q⟩ := h
  obtain ⟨o1, o2⟩ := Bool.and_eq_true_iff.mp ok
  obtain ⟨its, rv, pl, hz⟩ := I.list hs
  rw [Vals.ref1 r]
  obtain ⟨as, rd⟩ := RpAll.reads I hr (noFs_plain o1) its rv
  exact PySem.W.any_list_data (vs := its.toArray) (I.ok.hd rm.calm) pl.isList (by simpa using rd) o1 (fun x hx => fitB_ok (List.all_eq_true.mp o2 x hx)) fun h' tk k => ⟨.bl _, H, I.kept k, rfl, q⟩
def dAll : List D → Option Rv
  | [.list ds] => if allOk ds = true then some (db (ds.all PyData.truthy)) else none
  | _ => none
def dAny : List D → Option Rv
  | [.list ds] => if allOk ds = true then some (db (ds.any PyData.truthy)) else none
  | _ => none
theorem allCS {K : PySem.W.Frag} : CaS K (rAllD K fun ds => ds.all PyData.truthy) dAll := by
  intro O cs H vs ds z Q w hp g p
  match ds, g, hp with
  | [.list ds], g, hp =>
    obtain ⟨x, rfl, sx⟩ := Paired.one hp
    obtain ⟨hz, rfl⟩ := ite_some g
    obtain ⟨a, vs, rfl, q, r⟩ := sx.list
    exact ⟨a, vs, ds, rfl, q.sq, r.mono hd_le, hz, post_bool w p⟩
theorem anyCS {K : PySem.W.Frag} : CaS K (rAllD K fun ds => ds.any PyData.truthy) dAny := by
  intro O cs H vs ds z Q w hp g p
  match ds, g, hp with
  | [.list ds], g, hp =>
    obtain ⟨x, rfl, sx⟩ := Paired.one hp
    obtain ⟨hz, rfl⟩ := ite_some g
    obtain ⟨a, vs, rfl, q, r⟩ := sx.list
    exact ⟨a, vs, ds, rfl, q.sq, r.mono hd_le, hz, post_bool w p⟩
theorem xe_all {e : Expr} {fa : MA} {p pos : Pos} (rm : Rm X) (hg : Gl X "all") (hm : X.mg "all" = none) (ha : XA X fa [e]) (he : starEach [e] X.env = (false, eval e X.env) :: starEach [] X.env := by rfl) : XE X (mCall dAll fa) (.Call (.Name "all" p) [e] [] pos) :=
  xe_callB (call_allD rm) allCS hg hm (by decide +kernel) ha (he := he)
theorem xe_any {e : Expr} {fa : MA} {p pos : Pos} (rm : Rm X) (hg : Gl X "any") (hm : X.mg "any" = none) (ha : XA X fa [e]) (he : starEach [e] X.env = (false, eval e X.env) :: starEach [] X.env := by rfl) : XE X (mCall dAny fa) (.Call (.Name "any" p) [e] [] pos) :=
  xe_callB (call_anyD rm) anyCS hg hm (by decide +kernel) ha (he := he)
/-! ### max, min of a list of ints -/
def maxI : List Int → Int
  | [] => 0
  | [a] => a
  | a :: r => max a (maxI r)
def minI : List Int → Int
  | [] => 0
  | [a] => a
  | a :: r => min a (minI r)
theorem maxI_mem : ∀ {l : List Int}, l ≠ [] → maxI l ∈ l ∧ ∀ y ∈ l, y ≤ maxI l
  | [], h => absurd rfl h
  | [a], _ => ⟨by simp [maxI], by simp [maxI]⟩
  | a :: b :: r, _ => by
    obtain ⟨h1, h2⟩ := maxI_mem (l := b :: r) (by simp)
    show max a (maxI (b :: r)) ∈ _ ∧ ∀ y ∈ _, y ≤ max a (maxI (b :: r))
    refine ⟨?_, fun y hy => ?_⟩
    · rcases Int.le_total a (maxI (b :: r)) with h | h
      · rw [Int.max_eq_right h]; exact List.mem_cons_of_mem _ h1
      · rw [Int.max_eq_left h]; exact List.mem_cons_self ..
    · rcases List.mem_cons.mp hy with h | h
      · rw [h]; exact Int.le_max_left _ _
      · exact Int.le_trans (h2 y h) (Int.le_max_right _ _)
theorem minI_mem : ∀ {l : List Int}, l ≠ [] → minI l ∈ l ∧ ∀ y ∈ l, minI l ≤ y
  | [], h => absurd rfl h
  | [a], _ => ⟨by simp [minI], by simp [minI]⟩
  | a :: b :: r, _ => by
    obtain ⟨h1, h2⟩ := minI_mem (l := b :: r) (by simp)
    show min a (minI (b :: r)) ∈ _ ∧ ∀ y ∈ _, min a (minI (b :: r)) ≤ y
    refine ⟨?_, fun y hy => ?_⟩
    · rcases Int.le_total a (minI (b :: r)) with h | h
      · rw [Int.min_eq_left h]; exact List.mem_cons_self ..
      · rw [Int.min_eq_right h]; exact List.mem_cons_of_mem _ h1
    · rcases List.mem_cons.mp hy with h | h
      · rw [h]; exact Int.min_le_left _ _
      · exact Int.le_trans (Int.min_le_right _ _) (h2 y h)
def dMaxL : List D → Option Rv
  | [.list ds] => (intsD ds).bind fun is => if is ≠ [] then some (di (maxI is)) else none
  | _ => none
def dMinL : List D → Option Rv
  | [.list ds] => (intsD ds).bind fun is => if is ≠ [] then some (di (minI is)) else none
  | _ => none
theorem maxLCS {K : PySem.W.Frag} : CaS K (rMax K) dMaxL := by
  intro O cs H vs ds z Q w hp g p
  match ds, g, hp with
  | [.list ds], g, hp =>
    obtain ⟨x, rfl, sx⟩ := Paired.one hp
    obtain ⟨is, h1, g⟩ := Option.bind_eq_some_iff.mp g
    obtain ⟨hz, rfl⟩ := ite_some g
    obtain ⟨a, vs, rfl, q, r⟩ := sx.list
    have e := intsD_v r h1
    subst e
    obtain ⟨m1, m2⟩ := maxI_mem hz
    refine ⟨a, is, rfl, q.sq, List.length_pos_iff.mpr hz, fun m hm hle => ?_⟩
    have : m = maxI is := Int.le_antisymm (m2 m hm) (hle _ m1)
    rw [this]
    exact post_int w p
theorem minLCS {K : PySem.W.Frag} : CaS K (rMin K) dMinL := by
  intro O cs H vs ds z Q w hp g p
  match ds, g, hp with
  | [.list ds], g, hp =>
    obtain ⟨x, rfl, sx⟩ := Paired.one hp
    obtain ⟨is, h1, g⟩ := Option.bind_eq_some_iff.mp g
    obtain ⟨hz, rfl⟩ := ite_some g
    obtain ⟨a, vs, rfl, q, r⟩ := sx.list
    have e := intsD_v r h1
    subst e
    obtain ⟨m1, m2⟩ := minI_mem hz
    refine ⟨a, is, rfl, q.sq, List.length_pos_iff.mpr hz, fun m hm hle => ?_⟩
    have : m = minI is := Int.le_antisymm (hle _ m1) (m2 m hm)
    rw [this]
    exact post_int w p
theorem xe_maxL {e : Expr} {fa : MA} {p pos : Pos} (rm : Rm X) (hg : Gl X "max") (hm : X.mg "max" = none) (ha : XA X fa [e]) (he : starEach [e] X.env = (false, eval e X.env) :: starEach [] X.env := by rfl) : XE X (mCall dMaxL fa) (.Call (.Name "max" p) [e] [] pos) :=
  xe_callB (cr_max rm.calm) maxLCS hg hm (by decide +kernel) ha (he := he)
theorem xe_minL {e : Expr} {fa : MA} {p pos : Pos} (rm : Rm X) (hg : Gl X "min") (hm : X.mg "min" = none) (ha : XA X fa [e]) (he : starEach [e] X.env = (false, eval e X.env) :: starEach [] X.env := by rfl) : XE X (mCall dMinL fa) (.Call (.Name "min" p) [e] [] pos) :=
  xe_callB (cr_min rm.calm) minLCS hg hm (by decide +kernel) ha (he := he)
/-! ### list(range(..)) -/
theorem rg_rp {K : PySem.W.Frag} {H : Hp} (a b : Int) : RpAll K H (rgV a b) (rngD a (b - a).toNat) := by
  unfold rgV rngD
  induction (List.range (b - a).toNat) with
  | nil => exact .nil
  | cons n r ih => exact .cons (.int _) ih
def rgOkB (a b : Int) : Bool := decide (-(2 ^ 62) ≤ a) && decide (a < 2 ^ 62) && decide (-(2 ^ 62) ≤ b) && decide (b < 2 ^ 62) && decide ((b - a).toNat ≤ 2 ^ 24)
theorem rgOk_of {a b : Int} (h : rgOkB a b = true) : RgOk a b := by
  unfold rgOkB at h
  simp only [Bool.and_eq_true, decide_eq_true_eq] at h
  exact ⟨h.1.1.1.1, h.1.1.1.2, h.1.1.2, h.1.2, h.2⟩
def mLR1 (fa : ME) : ME := fun ρ cs => (fa ρ cs).bind fun p => (intOf p.1).bind fun n => if rgOkB 0 n = true then some (.fr (rngD 0 (n - 0).toNat), p.2) else none
def mLR2 (fa fb : ME) : ME := fun ρ cs => (fa ρ cs).bind fun p => (fb ρ p.2).bind fun q => (intOf p.1).bind fun a => (intOf q.1).bind fun b => if rgOkB a b = true then some (.fr (rngD a (b - a).toNat), q.2) else none
theorem xe_lr1 {a : Expr} {fa : ME} {p pos p2 pos2 : Pos} (rm : Rm X) (hg : Gl X "list") (hm : X.mg "list" = none) (hg2 : Gl X "range") (hm2 : X.mg "range" = none) (ha : XE X fa a) (na : starEach [a] X.env = (false, eval a X.env) :: starEach [] X.env := by rfl)
    (nb : starEach [.Call (.Name "range" p2) [a] [] pos2] X.env = (false, eval (.Call (.Name "range" p2) [a] [] pos2) X.env) :: starEach [] X.env := by rfl) : XE X (mLR1 fa) (.Call (.Name "list" p) [.Call (.Name "range" p2) [a] [] pos2] [] pos) :=
  pe_weak (pe_listRg rm.calm hg hm (prg_1 hg2 hm2 ha na) nb) fun σ H Q ⟨ρ, O, cs, z, cs', e, en, w, p⟩ => by
    obtain ⟨⟨x, cs1⟩, h1, e1⟩ := Option.bind_eq_some_iff.mp e
    obtain ⟨n, h2, e2⟩ := Option.bind_eq_some_iff.mp e1
    obtain ⟨ok, e3⟩ := ite_some e2
    cases e3
    obtain rfl : x = di n := intOf_some h2
    refine ⟨ρ, O, cs, _, cs1, h1, en, w, fun v1 H1 c1 w1 r1 => ?_⟩
    cases (show Rp X.K (DL.hd O H1) v1 (.int n) from r1)
    exact ⟨n, rfl, rgOk_of ok, post_list w1 (rg_rp 0 n) (p.step c1 w1)⟩
theorem xe_lr2 {a b : Expr} {fa fb : ME} {p pos p2 pos2 : Pos} (rm : Rm X) (hg : Gl X "list") (hm : X.mg "list" = none) (hg2 : Gl X "range") (hm2 : X.mg "range" = none) (ha : XE X fa a) (hb : XE X fb b) (na : starEach [a, b] X.env = (false, eval a X.env) :: starEach [b] X.env := by rfl)
    (nb : starEach [b] X.env = (false, eval b X.env) :: starEach [] X.env := by rfl) (hp : (backTo pos2 (starEach [b] X.env)).any (·.1) = false := by rfl)
    (nc : starEach [.Call (.Name "range" p2) [a, b] [] pos2] X.env = (false, eval (.Call (.Name "range" p2) [a, b] [] pos2) X.env) :: starEach [] X.env := by rfl) : XE X (mLR2 fa fb) (.Call (.Name "list" p) [.Call (.Name "range" p2) [a, b] [] pos2] [] pos) :=
  pe_weak (pe_listRg rm.calm hg hm (prg_2 hg2 hm2 ha hb na nb hp) nc) fun σ H Q ⟨ρ, O, cs, z, cs', e, en, w, p⟩ => by
    obtain ⟨⟨x, cs1⟩, h1, e1⟩ := Option.bind_eq_some_iff.mp e
    obtain ⟨⟨y, cs2⟩, h2, e2⟩ := Option.bind_eq_some_iff.mp e1
    obtain ⟨i, h3, e3⟩ := Option.bind_eq_some_iff.mp e2
    obtain ⟨j, h4, e4⟩ := Option.bind_eq_some_iff.mp e3
    obtain ⟨ok, e5⟩ := ite_some e4
    cases e5
    obtain rfl : x = di i := intOf_some h3
    obtain rfl : y = di j := intOf_some h4
    refine ⟨ρ, O, cs, _, cs1, h1, en, w, fun v1 H1 c1 w1 r1 => ?_⟩
    cases (show Rp X.K (DL.hd O H1) v1 (.int i) from r1)
    refine ⟨ρ, O, cs1, _, cs2, h2, en.ch c1, w1, fun v2 H2 c2 w2 r2 => ?_⟩
    cases (show Rp X.K (DL.hd O H2) v2 (.int j) from r2)
    exact ⟨i, j, rfl, rfl, rgOk_of ok, post_list w2 (rg_rp i j) (p.step (c1.trans c2) w2)⟩
end
end DL
namespace DL
open PySem PySem.Spec PyProof.Rows L2
/-! ### running mirrors: what holds behind -/
def wpo {α β : Type} (o : Option (α × β)) (Q : α → β → Prop) : Prop := match o with
  | some p => Q p.1 p.2
  | none => False
def wpd {α : Type} (o : Option α) (Q : α → Prop) : Prop := match o with
  | some x => Q x
  | none => False
section
variable {α β γ : Type}
@[simp] theorem wpo_some {a : α} {b : β} {Q : α → β → Prop} : wpo (some (a, b)) Q ↔ Q a b := Iff.rfl
@[simp] theorem wpo_none {Q : α → β → Prop} : wpo (none : Option (α × β)) Q ↔ False := Iff.rfl
@[simp] theorem wpd_some {a : α} {Q : α → Prop} : wpd (some a) Q ↔ Q a := Iff.rfl
@[simp] theorem wpd_none {Q : α → Prop} : wpd (none : Option α) Q ↔ False := Iff.rfl
theorem wpo_iff {o : Option (α × β)} {Q : α → β → Prop} : wpo o Q ↔ ∃ a b, o = some (a, b) ∧ Q a b := by
  cases o with
  | none => simp
  | some p =>
    obtain ⟨a, b⟩ := p
    exact ⟨fun h => ⟨a, b, rfl, h⟩, fun ⟨_, _, e, h⟩ => by cases e; exact h⟩
theorem wpd_iff {o : Option α} {Q : α → Prop} : wpd o Q ↔ ∃ a, o = some a ∧ Q a := by
  cases o <;> simp
theorem wpo_of {o : Option (α × β)} {a : α} {b : β} {Q : α → β → Prop} (h : o = some (a, b)) (q : Q a b) : wpo o Q := by rw [h]; exact q
theorem wpo_mono {o : Option (α × β)} {Q R : α → β → Prop} (h : wpo o Q) (i : ∀ a b, Q a b → R a b) : wpo o R := by
  cases o with
  | none => exact h
  | some p => exact i _ _ h
theorem wpd_mono {o : Option α} {Q R : α → Prop} (h : wpd o Q) (i : ∀ a, Q a → R a) : wpd o R := by
  cases o with
  | none => exact h
  | some p => exact i _ h
theorem wpo_bind {γ δ : Type} {o : Option (α × β)} {k : α × β → Option (γ × δ)} {Q : γ → δ → Prop} : wpo (o.bind k) Q ↔ wpo o fun a b => wpo (k (a, b)) Q := by cases o <;> rfl
theorem wpo_map {δ : Type} {o : Option (α × β)} {k : α × β → γ × δ} {Q : γ → δ → Prop} : wpo (o.map k) Q ↔ wpo o fun a b => Q (k (a, b)).1 (k (a, b)).2 := by cases o <;> rfl
theorem wpd_bindo {o : Option α} {k : α → Option (β × γ)} {Q : β → γ → Prop} : wpo (o.bind k) Q ↔ wpd o fun a => wpo (k a) Q := by cases o <;> rfl
theorem wpd_mapo {o : Option α} {k : α → β × γ} {Q : β → γ → Prop} : wpo (o.map k) Q ↔ wpd o fun a => Q (k a).1 (k a).2 := by cases o <;> rfl
theorem wpd_bind {o : Option α} {k : α → Option β} {Q : β → Prop} : wpd (o.bind k) Q ↔ wpd o fun a => wpd (k a) Q := by cases o <;> rfl
theorem wpd_map {o : Option α} {k : α → β} {Q : β → Prop} : wpd (o.map k) Q ↔ wpd o fun a => Q (k a) := by cases o <;> rfl
@[simp] theorem wpd_ite {c : Prop} [Decidable c] {o : Option α} {Q : α → Prop} : wpd (if c then o else none) Q ↔ c ∧ wpd o Q := by
  by_cases h : c <;> simp [h]
@[simp] theorem wpo_ite {c : Prop} [Decidable c] {o : Option (α × β)} {Q : α → β → Prop} : wpo (if c then o else none) Q ↔ c ∧ wpo o Q := by
  by_cases h : c <;> simp [h]
end
def Ev (f : ME) (ρ : Rho) (cs : Cs) (Q : Rv → Cs → Prop) : Prop := wpo (f ρ cs) Q
def Et (f : MT) (ρ : Rho) (cs : Cs) (Q : Bool → Cs → Prop) : Prop := wpo (f ρ cs) Q
def Ea (f : MA) (ρ : Rho) (cs : Cs) (Q : List Rv → Cs → Prop) : Prop := wpo (f ρ cs) Q
def Em (m : MF) (rs : List Rv) (cs : Cs) (Q : Rv → Cs → Prop) : Prop := wpo (m rs cs) Q
def Ei (f : MI) (ρ : Rho) (cs : Cs) (Q : List D → Cs → Prop) : Prop := wpo (f ρ cs) Q
def Eo (f : MO) (ρ : Rho) (cs : Cs) (Q : Option Int → Cs → Prop) : Prop := wpo (f ρ cs) Q
def Eg (g : MG) (d : D) (ρ : Rho) (Q : Rho → Prop) : Prop := wpd (g d ρ) Q
def Egs (g : MGs) (ds : List D) (ρ : Rho) (Q : Rho → Prop) : Prop := wpd (g ds ρ) Q
def Es (f : MS) (n0 : Nat) (ρ : Rho) (cs : Cs) (Q : Out → Prop) : Prop := wpd (f n0 ρ cs) Q
/-- read as data -/
def Rd1 (r : Rv) (cs : Cs) (Q : D → Prop) : Prop := wpd (rd (deg r) cs) Q
def O1 (g : D → Option Rv) (x : Rv) (cs : Cs) (Q : Rv → Cs → Prop) : Prop := Rd1 x cs fun d => wpd (g d) fun z => Q z cs
def O2 (g : D → D → Option Rv) (x y : Rv) (cs : Cs) (Q : Rv → Cs → Prop) : Prop := Rd1 x cs fun d => Rd1 y cs fun e => wpd (g d e) fun z => Q z cs
section
variable {ρ : Rho} {cs : Cs} {Q : Rv → Cs → Prop} {QD : D → Prop} {QT : Bool → Cs → Prop} {QA : List Rv → Cs → Prop} {QI : List D → Cs → Prop} {QO : Option Int → Cs → Prop} {QS : Out → Prop} {QR : Rho → Prop} {n0 : Nat} {fa fb fc : ME} {f g : MS} {m : MF}
@[simp] theorem rd1_dat {d : D} : Rd1 (.dat d) cs QD ↔ QD d := Iff.rfl
@[simp] theorem rd1_fr {d : List D} : Rd1 (.fr d) cs QD ↔ QD (.list d) := Iff.rfl
theorem rd1_own {k : Nat} {c : List D} (h : cs[k]? = some (some c)) : Rd1 (.own k) cs QD ↔ QD (.list c) := by
  unfold Rd1 deg rd
  simp only [h]
  rfl
@[simp] theorem o1_dat {g : D → Option Rv} {d : D} : O1 g (.dat d) cs Q ↔ wpd (g d) fun z => Q z cs := Iff.rfl
@[simp] theorem o1_fr {g : D → Option Rv} {d : List D} : O1 g (.fr d) cs Q ↔ wpd (g (.list d)) fun z => Q z cs := Iff.rfl
@[simp] theorem o2_dd {g : D → D → Option Rv} {d e : D} : O2 g (.dat d) (.dat e) cs Q ↔ wpd (g d e) fun z => Q z cs := Iff.rfl
@[simp] theorem o2_fd {g : D → D → Option Rv} {d : List D} {e : D} : O2 g (.fr d) (.dat e) cs Q ↔ wpd (g (.list d) e) fun z => Q z cs := Iff.rfl
@[simp] theorem o2_df {g : D → D → Option Rv} {d : D} {e : List D} : O2 g (.dat d) (.fr e) cs Q ↔ wpd (g d (.list e)) fun z => Q z cs := Iff.rfl
@[simp] theorem o2_ff {g : D → D → Option Rv} {d : List D} {e : List D} : O2 g (.fr d) (.fr e) cs Q ↔ wpd (g (.list d) (.list e)) fun z => Q z cs := Iff.rfl
theorem o2_od {g : D → D → Option Rv} {k : Nat} {c : List D} {e : D} (h : cs[k]? = some (some c)) : O2 g (.own k) (.dat e) cs Q ↔ wpd (g (.list c) e) fun z => Q z cs := by
  unfold O2
  rw [rd1_own h]
  exact Iff.rfl
theorem o2_do {g : D → D → Option Rv} {k : Nat} {c : List D} {e : D} (h : cs[k]? = some (some c)) : O2 g (.dat e) (.own k) cs Q ↔ wpd (g e (.list c)) fun z => Q z cs := by
  unfold O2
  rw [rd1_dat, rd1_own h]
@[simp] theorem ev_xVar {i : Nat} : Ev (xVar i) ρ cs Q ↔ wpd (ρ[i]?.join) fun r => Q r cs := wpd_mapo
@[simp] theorem ev_xC {d : D} : Ev (xC d) ρ cs Q ↔ Q (.dat d) cs := Iff.rfl
@[simp] theorem ev_mB {h : D → D → Option Rv} : Ev (mB h fa fb) ρ cs Q ↔ Ev fa ρ cs fun x cs1 => Ev fb ρ cs1 fun y cs2 => O2 h x y cs2 Q := by
  unfold Ev mB O2 Rd1
  rw [wpo_bind]
  refine iff_of_eq (congrArg _ (funext fun x => funext fun cs1 => propext ?_))
  rw [wpo_bind]
  refine iff_of_eq (congrArg _ (funext fun y => funext fun cs2 => propext ?_))
  rw [wpd_bindo]
  refine iff_of_eq (congrArg _ (funext fun d => propext ?_))
  rw [wpd_bindo]
  refine iff_of_eq (congrArg _ (funext fun e => propext ?_))
  rw [wpd_mapo]
@[simp] theorem ev_mU {h : D → Option Rv} : Ev (mU h fa) ρ cs Q ↔ Ev fa ρ cs fun x cs1 => O1 h x cs1 Q := by
  unfold Ev mU O1 Rd1
  rw [wpo_bind]
  refine iff_of_eq (congrArg _ (funext fun x => funext fun cs1 => propext ?_))
  rw [wpd_bindo]
  refine iff_of_eq (congrArg _ (funext fun d => propext ?_))
  rw [wpd_mapo]
@[simp] theorem ea_nil : Ea aNil ρ cs QA ↔ QA [] cs := Iff.rfl
@[simp] theorem ea_cons {fr : MA} : Ea (aCons fa fr) ρ cs QA ↔ Ev fa ρ cs fun x cs1 => Ea fr ρ cs1 fun rs cs2 => QA (deg x :: rs) cs2 := by
  unfold Ev Ea aCons
  rw [wpo_bind]
  refine iff_of_eq (congrArg _ (funext fun x => funext fun cs1 => propext ?_))
  rw [wpo_map]
@[simp] theorem deg_dat {d : D} : deg (.dat d) = .dat d := rfl
@[simp] theorem deg_own {k : Nat} : deg (.own k) = .own k := rfl
@[simp] theorem deg_fr {d : List D} : deg (.fr d) = .dat (.list d) := rfl
/-- all read as data -/
def RdA (rs : List Rv) (cs : Cs) (Q : List D → Prop) : Prop := wpd (rdAll rs cs) Q
@[simp] theorem rda_nil {Q : List D → Prop} : RdA [] cs Q ↔ Q [] := Iff.rfl
@[simp] theorem rda_cons {r : Rv} {rs : List Rv} {Q : List D → Prop} : RdA (r :: rs) cs Q ↔ wpd (rd r cs) fun d => RdA rs cs fun ds => Q (d :: ds) := by
  unfold RdA
  rw [show rdAll (r :: rs) cs = (rd r cs).bind fun d => (rdAll rs cs).map fun ds => d :: ds from rfl, wpd_bind]
  refine iff_of_eq (congrArg _ (funext fun d => propext ?_))
  rw [wpd_map]
@[simp] theorem rd_dat {d : D} : rd (.dat d) cs = some d := rfl
@[simp] theorem rd_fr {d : List D} : rd (.fr d) cs = some (.list d) := rfl
theorem rd_own {k : Nat} {c : List D} (h : cs[k]? = some (some c)) : rd (.own k) cs = some (.list c) := by
  unfold rd
  simp only [h]
@[simp] theorem ev_mCall {h : List D → Option Rv} {fr : MA} : Ev (mCall h fr) ρ cs Q ↔ Ea fr ρ cs fun rs cs1 => RdA rs cs1 fun ds => wpd (h ds) fun z => Q z cs1 := by
  unfold Ev Ea mCall RdA
  rw [wpo_bind]
  refine iff_of_eq (congrArg _ (funext fun x => funext fun cs1 => propext ?_))
  rw [wpd_bindo]
  refine iff_of_eq (congrArg _ (funext fun d => propext ?_))
  rw [wpd_mapo]
@[simp] theorem ev_mDisp {h : List D → Rv} {fr : MA} : Ev (mDisp h fr) ρ cs Q ↔ Ea fr ρ cs fun rs cs1 => wpd (datAll rs) fun ds => ds.length ≤ sizeLine ∧ Q (h ds) cs1 := by
  unfold Ev Ea mDisp
  rw [wpo_bind]
  refine iff_of_eq (congrArg _ (funext fun x => funext fun cs1 => propext ?_))
  rw [wpd_bindo]
  refine iff_of_eq (congrArg _ (funext fun d => propext ?_))
  rw [wpo_ite]
  exact Iff.rfl
@[simp] theorem ev_xLst {fr : MA} : Ev (xLst fr) ρ cs Q ↔ Ea fr ρ cs fun rs cs1 => wpd (datAll rs) fun ds => ds.length ≤ sizeLine ∧ Q (.fr ds) cs1 := ev_mDisp
@[simp] theorem ev_xTup {fr : MA} : Ev (xTup fr) ρ cs Q ↔ Ea fr ρ cs fun rs cs1 => wpd (datAll rs) fun ds => ds.length ≤ sizeLine ∧ Q (.dat (.tuple ds)) cs1 := ev_mDisp
@[simp] theorem datAll_nil : datAll [] = some [] := rfl
@[simp] theorem datAll_cons {d : D} {rs : List Rv} : datAll (.dat d :: rs) = (datAll rs).map fun ds => d :: ds := rfl
@[simp] theorem ev_mIf {c : MT} : Ev (mIf c fa fb) ρ cs Q ↔ Et c ρ cs fun b cs1 => if b = true then Ev fa ρ cs1 Q else Ev fb ρ cs1 Q := by
  unfold Ev Et mIf
  rw [wpo_bind]
  refine iff_of_eq (congrArg _ (funext fun b => funext fun cs1 => propext ?_))
  cases b <;> simp
def Tr1 (x : Rv) (cs : Cs) (Q : Bool → Prop) : Prop := Rd1 x cs fun d => wpd (truD d) Q
@[simp] theorem truD_none : truD .none = some false := rfl
@[simp] theorem truD_bool {b : Bool} : truD (.bool b) = some b := rfl
@[simp] theorem truD_int {i : Int} : truD (.int i) = some (i != 0) := rfl
@[simp] theorem truD_str {x : Str} : truD (.str x) = some ((x.length : Int) != 0) := rfl
@[simp] theorem truD_list {ds : List D} : truD (.list ds) = some (!ds.isEmpty) := rfl
@[simp] theorem truD_tuple {ds : List D} : truD (.tuple ds) = some (!ds.isEmpty) := rfl
@[simp] theorem tr1_bool {b : Bool} {Q : Bool → Prop} : Tr1 (.dat (.bool b)) cs Q ↔ Q b := Iff.rfl
@[simp] theorem tr1_dat {d : D} {Q : Bool → Prop} : Tr1 (.dat d) cs Q ↔ wpd (truD d) Q := Iff.rfl
@[simp] theorem tr1_fr {d : List D} {Q : Bool → Prop} : Tr1 (.fr d) cs Q ↔ Q (!d.isEmpty) := Iff.rfl
@[simp] theorem ev_mAnd : Ev (mAnd fa fb) ρ cs Q ↔ Ev fa ρ cs fun x cs1 => Tr1 x cs1 fun k => if k = true then Ev fb ρ cs1 Q else Q (deg x) cs1 := by
  unfold Ev mAnd Tr1 Rd1
  rw [wpo_bind]
  refine iff_of_eq (congrArg _ (funext fun x => funext fun cs1 => propext ?_))
  rw [wpd_bindo]
  refine iff_of_eq (congrArg _ (funext fun d => propext ?_))
  rw [wpd_bindo]
  refine iff_of_eq (congrArg _ (funext fun b => propext ?_))
  cases b <;> simp
@[simp] theorem ev_mOr : Ev (mOr fa fb) ρ cs Q ↔ Ev fa ρ cs fun x cs1 => Tr1 x cs1 fun k => if k = true then Q (deg x) cs1 else Ev fb ρ cs1 Q := by
  unfold Ev mOr Tr1 Rd1
  rw [wpo_bind]
  refine iff_of_eq (congrArg _ (funext fun x => funext fun cs1 => propext ?_))
  rw [wpd_bindo]
  refine iff_of_eq (congrArg _ (funext fun d => propext ?_))
  rw [wpd_bindo]
  refine iff_of_eq (congrArg _ (funext fun b => propext ?_))
  cases b <;> simp
@[simp] theorem ev_mCallF {n : Nat} {fr : MA} : Ev (mCallF n m fr) ρ cs Q ↔ Ea fr ρ cs fun rs cs1 => rs.length = n ∧ Em m rs cs1 Q := by
  unfold Ev Ea Em mCallF
  rw [wpo_bind]
  refine iff_of_eq (congrArg _ (funext fun x => funext fun cs1 => propext ?_))
  exact wpo_ite
@[simp] theorem ev_mCallK {n k q : Nat} {π : List Nat} {fr fk : MA} : Ev (mCallK n k q π m fr fk) ρ cs Q ↔ Ea fr ρ cs fun rs cs1 => Ea fk ρ cs1 fun ks cs2 => (rs.length = n ∧ ks.length = k ∧ (pick π (rs ++ ks)).length = q) ∧ Em m (pick π (rs ++ ks)) cs2 Q := by
  unfold Ev Ea Em mCallK
  rw [wpo_bind]
  refine iff_of_eq (congrArg _ (funext fun x => funext fun cs1 => propext ?_))
  rw [wpo_bind]
  refine iff_of_eq (congrArg _ (funext fun y => funext fun cs2 => propext ?_))
  exact wpo_ite
@[simp] theorem ev_mM1 {h : D → D → Option Rv} : Ev (mM1 h fa fb) ρ cs Q ↔ Ev fa ρ cs fun x cs1 => wpd (match x with | .dat (.str a) => some a | _ => none) fun a => Ev fb ρ cs1 fun y cs2 => O2 h (.dat (.str a)) y cs2 Q := by
  unfold Ev mM1
  rw [wpo_bind]
  refine iff_of_eq (congrArg _ (funext fun x => funext fun cs1 => propext ?_))
  have go : ∀ a : Str, (wpo ((fb ρ cs1).bind fun q => (rd (deg q.1) q.2).bind fun e => (h (.str a) e).map fun z => (z, q.2)) Q ↔ wpo (fb ρ cs1) fun y cs2 => O2 h (.dat (.str a)) y cs2 Q) := fun a => by
    rw [wpo_bind]
    refine iff_of_eq (congrArg _ (funext fun y => funext fun cs2 => propext ?_))
    unfold O2 Rd1
    rw [wpd_bindo]
    show _ ↔ wpd (some (PyData.str a)) _
    rw [wpd_some]
    refine iff_of_eq (congrArg _ (funext fun d => propext ?_))
    rw [wpd_mapo]
  cases x with
  | dat d =>
    cases d with
    | str a => exact go a
    | _ => exact Iff.rfl
  | _ => exact Iff.rfl
@[simp] theorem eo_none : Eo oNone ρ cs QO ↔ QO none cs := Iff.rfl
@[simp] theorem eo_some : Eo (oSome fa) ρ cs QO ↔ Ev fa ρ cs fun x cs1 => wpd (intOf x) fun i => QO (some i) cs1 := by
  unfold Eo Ev oSome
  rw [wpo_bind]
  refine iff_of_eq (congrArg _ (funext fun x => funext fun cs1 => propext ?_))
  rw [wpd_mapo]
@[simp] theorem intOf_dat {i : Int} : intOf (.dat (.int i)) = some i := rfl
@[simp] theorem ev_mSl {lo hi : MO} : Ev (mSl fa lo hi) ρ cs Q ↔ Ev fa ρ cs fun x cs1 => Eo lo ρ cs1 fun l cs2 => Eo hi ρ cs2 fun u cs3 => Rd1 x cs3 fun d => wpd (dSl d l u) fun z => Q z cs3 := by
  unfold Ev Eo Rd1 mSl
  rw [wpo_bind]
  refine iff_of_eq (congrArg _ (funext fun x => funext fun cs1 => propext ?_))
  rw [wpo_bind]
  refine iff_of_eq (congrArg _ (funext fun y => funext fun cs2 => propext ?_))
  rw [wpo_bind]
  refine iff_of_eq (congrArg _ (funext fun z => funext fun cs3 => propext ?_))
  rw [wpd_bindo]
  refine iff_of_eq (congrArg _ (funext fun d => propext ?_))
  rw [wpd_mapo]
@[simp] theorem ev_mChain {p q : Int → Int → Bool} : Ev (mChain p q fa fb fc) ρ cs Q ↔ Ev fa ρ cs fun x cs1 => Ev fb ρ cs1 fun y cs2 => wpd (intOf x) fun i => wpd (intOf y) fun j => if p i j = true then Ev fc ρ cs2 fun z cs3 => wpd (intOf z) fun k => Q (db (q j k)) cs3 else Q (db false) cs2 := by
  unfold Ev mChain
  rw [wpo_bind]
  refine iff_of_eq (congrArg _ (funext fun x => funext fun cs1 => propext ?_))
  rw [wpo_bind]
  refine iff_of_eq (congrArg _ (funext fun y => funext fun cs2 => propext ?_))
  rw [wpd_bindo]
  refine iff_of_eq (congrArg _ (funext fun i => propext ?_))
  rw [wpd_bindo]
  refine iff_of_eq (congrArg _ (funext fun j => propext ?_))
  by_cases h : p i j = true
  · rw [if_pos h, if_pos h, wpo_bind]
    refine iff_of_eq (congrArg _ (funext fun z => funext fun cs3 => propext ?_))
    rw [wpd_bindo]
    exact Iff.rfl
  · rw [if_neg h, if_neg h]
    exact Iff.rfl
@[simp] theorem et_mTB : Et (mTB fa) ρ cs QT ↔ Ev fa ρ cs fun x cs1 => wpd (match x with | .dat (.bool b) => some b | _ => none) fun b => QT b cs1 := by
  unfold Et Ev mTB
  rw [wpo_bind]
  refine iff_of_eq (congrArg _ (funext fun x => funext fun cs1 => propext ?_))
  cases x with
  | dat d => cases d <;> exact Iff.rfl
  | _ => exact Iff.rfl
@[simp] theorem et_mTNot {t : MT} : Et (mTNot t) ρ cs QT ↔ Et t ρ cs fun b cs1 => QT (!b) cs1 := wpo_map
@[simp] theorem et_mTAnd {t u : MT} : Et (mTAnd t u) ρ cs QT ↔ Et t ρ cs fun b cs1 => if b = true then Et u ρ cs1 QT else QT false cs1 := by
  unfold Et mTAnd
  rw [wpo_bind]
  refine iff_of_eq (congrArg _ (funext fun b => funext fun cs1 => propext ?_))
  cases b <;> simp
@[simp] theorem et_mTOr {t u : MT} : Et (mTOr t u) ρ cs QT ↔ Et t ρ cs fun b cs1 => if b = true then QT true cs1 else Et u ρ cs1 QT := by
  unfold Et mTOr
  rw [wpo_bind]
  refine iff_of_eq (congrArg _ (funext fun b => funext fun cs1 => propext ?_))
  cases b <;> simp
@[simp] theorem et_mTru : Et (mTru fa) ρ cs QT ↔ Ev fa ρ cs fun x cs1 => Tr1 x cs1 fun b => QT b cs1 := by
  unfold Et Ev mTru Tr1 Rd1
  rw [wpo_bind]
  refine iff_of_eq (congrArg _ (funext fun x => funext fun cs1 => propext ?_))
  rw [wpd_bindo]
  refine iff_of_eq (congrArg _ (funext fun d => propext ?_))
  rw [wpd_mapo]
@[simp] theorem et_mYes : Et mYes ρ cs QT ↔ QT true cs := Iff.rfl
@[simp] theorem eg_gNm {i : Nat} {d : D} : Eg (gNm i) d ρ QR ↔ QR (ρ.set i (some (.dat d))) := Iff.rfl
@[simp] theorem eg_gTp {n : Nat} {h : MGs} {ds : List D} : Eg (gTp n h) (.tuple ds) ρ QR ↔ ds.length = n ∧ Egs h ds ρ QR := wpd_ite
@[simp] theorem egs_nil : Egs gsNil [] ρ QR ↔ QR ρ := Iff.rfl
@[simp] theorem egs_cons {h : MG} {hs : MGs} {d : D} {ds : List D} : Egs (gsCons h hs) (d :: ds) ρ QR ↔ Eg h d ρ fun ρ1 => Egs hs ds ρ1 QR := wpd_bind
@[simp] theorem es_sNil : Es sNil n0 ρ cs QS ↔ QS (.nx ρ cs) := Iff.rfl
@[simp] theorem es_sBrk : Es sBrk n0 ρ cs QS ↔ QS (.bk ρ cs) := Iff.rfl
@[simp] theorem es_sCnt : Es sCnt n0 ρ cs QS ↔ QS (.ct ρ cs) := Iff.rfl
@[simp] theorem es_sNev : Es sNev n0 ρ cs QS ↔ False := Iff.rfl
@[simp] theorem es_sRetN : Es sRetN n0 ρ cs QS ↔ QS (.rt (.dat .none) cs) := Iff.rfl
/-- go on behind -/
def Nx (n0 : Nat) (g : MS) (Q : Out → Prop) : Out → Prop
  | .nx ρ cs => Es g n0 ρ cs Q
  | o => Q o
@[simp] theorem nx_nx : Nx n0 g QS (.nx ρ cs) ↔ Es g n0 ρ cs QS := Iff.rfl
@[simp] theorem nx_rt {r : Rv} : Nx n0 g QS (.rt r cs) ↔ QS (.rt r cs) := Iff.rfl
@[simp] theorem nx_bk : Nx n0 g QS (.bk ρ cs) ↔ QS (.bk ρ cs) := Iff.rfl
@[simp] theorem nx_ct : Nx n0 g QS (.ct ρ cs) ↔ QS (.ct ρ cs) := Iff.rfl
@[simp] theorem es_sSeq : Es (sSeq f g) n0 ρ cs QS ↔ Es f n0 ρ cs (Nx n0 g QS) := by
  unfold Es sSeq
  rw [wpd_bind]
  refine iff_of_eq (congrArg _ (funext fun o => propext ?_))
  cases o <;> exact Iff.rfl
theorem wpo_bindd {α β γ : Type} {o : Option (α × β)} {k : α × β → Option γ} {Q : γ → Prop} : wpd (o.bind k) Q ↔ wpo o fun a b => wpd (k (a, b)) Q := by cases o <;> rfl
theorem wpo_mapd {α β γ : Type} {o : Option (α × β)} {k : α × β → γ} {Q : γ → Prop} : wpd (o.map k) Q ↔ wpo o fun a b => Q (k (a, b)) := by cases o <;> rfl
@[simp] theorem es_sExpr : Es (sExpr fa) n0 ρ cs QS ↔ Ev fa ρ cs fun _ cs1 => QS (.nx ρ cs1) := wpo_mapd
def DatOf (r : Rv) (Q : D → Prop) : Prop := wpd (match deg r with | .dat d => some d | _ => none) Q
@[simp] theorem datOf_dat {d : D} : DatOf (.dat d) QD ↔ QD d := Iff.rfl
@[simp] theorem datOf_fr {d : List D} : DatOf (.fr d) QD ↔ QD (.list d) := Iff.rfl
@[simp] theorem es_sSet {i : Nat} : Es (sSet i fa) n0 ρ cs QS ↔ Ev fa ρ cs fun x cs1 => DatOf x fun d => QS (.nx (ρ.set i (some (.dat d))) cs1) := by
  unfold Es Ev sSet DatOf
  rw [wpo_bindd]
  refine iff_of_eq (congrArg _ (funext fun x => funext fun cs1 => propext ?_))
  cases x <;> exact Iff.rfl
@[simp] theorem es_sOwn {i : Nat} : Es (sOwn i fa) n0 ρ cs QS ↔ Ev fa ρ cs fun x cs1 => wpd (match x with | .fr c => some c | _ => none) fun c => QS (.nx (ρ.set i (some (.own cs1.length))) (cs1 ++ [some c])) := by
  unfold Es Ev sOwn
  rw [wpo_bindd]
  refine iff_of_eq (congrArg _ (funext fun x => funext fun cs1 => propext ?_))
  cases x <;> exact Iff.rfl
@[simp] theorem es_sIf {c : MT} : Es (sIf c f g) n0 ρ cs QS ↔ Et c ρ cs fun b cs1 => if b = true then Es f n0 ρ cs1 QS else Es g n0 ρ cs1 QS := by
  unfold Es Et sIf
  rw [wpo_bindd]
  refine iff_of_eq (congrArg _ (funext fun b => funext fun cs1 => propext ?_))
  cases b <;> simp
/-- what a return hands out -/
def Ret (n0 : Nat) (r : Rv) (cs : Cs) (Q : Out → Prop) : Prop := match r with
  | .dat d => Q (.rt (.dat d) cs)
  | .fr c => Q (.rt (.own cs.length) (cs ++ [some c]))
  | .own k => n0 ≤ k ∧ Q (.rt (.own k) cs)
  | .exn _ _ => False
  | .ft d => Q (.rt (.ft d) cs)
  | .gr _ _ _ => False
@[simp] theorem ret_ft {d : D} : Ret n0 (.ft d) cs QS ↔ QS (.rt (.ft d) cs) := Iff.rfl
@[simp] theorem ret_dat {d : D} : Ret n0 (.dat d) cs QS ↔ QS (.rt (.dat d) cs) := Iff.rfl
@[simp] theorem ret_fr {c : List D} : Ret n0 (.fr c) cs QS ↔ QS (.rt (.own cs.length) (cs ++ [some c])) := Iff.rfl
@[simp] theorem ret_own {k : Nat} : Ret n0 (.own k) cs QS ↔ n0 ≤ k ∧ QS (.rt (.own k) cs) := Iff.rfl
@[simp] theorem es_sRet : Es (sRet fa) n0 ρ cs QS ↔ Ev fa ρ cs fun x cs1 => Ret n0 x cs1 QS := by
  unfold Es Ev sRet
  rw [wpo_bindd]
  refine iff_of_eq (congrArg _ (funext fun x => funext fun cs1 => propext ?_))
  cases x with
  | own k => exact wpd_ite
  | _ => exact Iff.rfl
/-- a def's result from its body's -/
def Fin (n : Nat) (Q : Rv → Cs → Prop) : Out → Prop
  | .rt (.dat d) cs' => Q (.dat d) (cs'.take n)
  | .rt (.ft d) cs' => Q (.ft d) (cs'.take n)
  | .rt (.own k) cs' => n ≤ k ∧ wpd cs'[k]?.join fun c => Q (.fr c) (cs'.take n)
  | .nx _ cs' => Q (.dat .none) (cs'.take n)
  | _ => False
@[simp] theorem fin_ft {n : Nat} {d : D} : Fin n Q (.rt (.ft d) cs) ↔ Q (.ft d) (cs.take n) := Iff.rfl
@[simp] theorem fin_dat {n : Nat} {d : D} : Fin n Q (.rt (.dat d) cs) ↔ Q (.dat d) (cs.take n) := Iff.rfl
@[simp] theorem fin_own {n k : Nat} : Fin n Q (.rt (.own k) cs) ↔ n ≤ k ∧ wpd cs[k]?.join fun c => Q (.fr c) (cs.take n) := Iff.rfl
@[simp] theorem fin_nx {n : Nat} : Fin n Q (.nx ρ cs) ↔ Q (.dat .none) (cs.take n) := Iff.rfl
theorem em_fnM {n : Nat} {b : MS} {rs : List Rv} : Em (fnM n b) rs cs Q ↔ Es b cs.length (rs.map some ++ List.replicate (n - rs.length) none) cs (Fin cs.length Q) := by
  unfold Em Es fnM
  rw [wpd_bindo]
  refine iff_of_eq (congrArg _ (funext fun o => propext ?_))
  cases o with
  | rt r cs' =>
    cases r with
    | dat d => exact Iff.rfl
    | fr c => exact Iff.rfl
    | exn nm d => exact Iff.rfl
    | ft d => exact Iff.rfl
    | gr d k n => exact Iff.rfl
    | own k =>
      show wpo (if cs.length ≤ k then _ else none) Q ↔ cs.length ≤ k ∧ wpd cs'[k]?.join _
      rw [wpo_ite]
      refine and_congr_right fun _ => ?_
      cases cs'[k]? with
      | none => exact Iff.rfl
      | some x => cases x <;> exact Iff.rfl
  | nx ρ cs' => exact Iff.rfl
  | bk _ _ => exact Iff.rfl
  | ct _ _ => exact Iff.rfl
theorem em_rec {n i : Nat} {b : MF → MS} {rs : List Rv} : Em (recM n b (i + 1)) rs cs Q ↔ Em (fnM n (b (recM n b i))) rs cs Q := Iff.rfl
@[simp] theorem es_sPut {x : Nat} : Es (sPut x fb fa) n0 ρ cs QS ↔ Ev fa ρ cs fun v cs1 => wpd (cellOf ρ[x]?) fun k => Ev fb ρ cs1 fun j cs2 => wpd (intOf j) fun i => DatOf v fun d => wpd cs2[k]?.join fun c => wpd (ixN c.length i) fun j => QS (.nx ρ (cs2.set k (some (c.set j d)))) := by
  unfold Es Ev sPut DatOf
  rw [wpo_bindd]
  refine iff_of_eq (congrArg _ (funext fun v => funext fun cs1 => propext ?_))
  rw [wpd_bind]
  refine iff_of_eq (congrArg _ (funext fun k => propext ?_))
  rw [wpo_bindd]
  refine iff_of_eq (congrArg _ (funext fun j => funext fun cs2 => propext ?_))
  rw [wpd_bind]
  refine iff_of_eq (congrArg _ (funext fun i => propext ?_))
  dsimp only
  cases deg v with
  | dat d =>
    cases cs2[k]? with
    | none => exact Iff.rfl
    | some c =>
      cases c with
      | none => exact Iff.rfl
      | some c => exact wpd_map
  | _ => exact Iff.rfl
@[simp] theorem cellOf_own {k : Nat} : cellOf (some (some (.own k))) = some k := rfl
@[simp] theorem es_sApp {x : Nat} : Es (sApp x fa) n0 ρ cs QS ↔ wpd (cellOf ρ[x]?) fun k => Ev fa ρ cs fun v cs1 => DatOf v fun d => wpd cs1[k]?.join fun c => c.length < sizeLine ∧ QS (.nx ρ (cs1.set k (some (c ++ [d])))) := by
  unfold Es Ev sApp DatOf
  rw [wpd_bind]
  refine iff_of_eq (congrArg _ (funext fun k => propext ?_))
  rw [wpo_bindd]
  refine iff_of_eq (congrArg _ (funext fun v => funext fun cs1 => propext ?_))
  dsimp only
  cases deg v with
  | dat d =>
    cases cs1[k]? with
    | none => exact Iff.rfl
    | some c =>
      cases c with
      | none => exact Iff.rfl
      | some c => exact wpd_ite
  | _ => exact Iff.rfl
@[simp] theorem es_sAsg {h : MG} : Es (sAsg fa h) n0 ρ cs QS ↔ Ev fa ρ cs fun x cs1 => DatOf x fun d => Eg h d ρ fun ρ1 => QS (.nx ρ1 cs1) := by
  unfold Es Ev sAsg DatOf Eg
  rw [wpo_bindd]
  refine iff_of_eq (congrArg _ (funext fun x => funext fun cs1 => propext ?_))
  cases x with
  | own k => exact Iff.rfl
  | exn nm d => exact Iff.rfl
  | gr d k n => exact Iff.rfl
  | _ => exact wpd_map
@[simp] theorem ei_iSeq : Ei (iSeq fa) ρ cs QI ↔ Ev fa ρ cs fun x cs1 => DatOf x fun d => wpd (itemsOf d) fun ds => QI ds cs1 := by
  unfold Ei Ev iSeq DatOf
  rw [wpo_bind]
  refine iff_of_eq (congrArg _ (funext fun x => funext fun cs1 => propext ?_))
  cases x with
  | own k => exact Iff.rfl
  | exn nm d => exact Iff.rfl
  | gr d k n => exact Iff.rfl
  | _ => exact wpd_mapo
@[simp] theorem itemsOf_list {ds : List D} : itemsOf (.list ds) = some ds := rfl
@[simp] theorem itemsOf_tuple {ds : List D} : itemsOf (.tuple ds) = some ds := rfl
@[simp] theorem itemsOf_str {x : Str} : itemsOf (.str x) = some (x.cps.toList.map fun c => .str ⟨#[c]⟩) := rfl
@[simp] theorem ei_rg1 {fr : MA} : Ei (iRg1 fr) ρ cs QI ↔ Ea fr ρ cs fun rs cs1 => wpd (match intsOf rs with | some [j] => some j | _ => none) fun j => sm62 j ∧ QI (rngD 0 j.toNat) cs1 := by
  unfold Ei Ea iRg1
  rw [wpo_bind]
  refine iff_of_eq (congrArg _ (funext fun x => funext fun cs1 => propext ?_))
  dsimp only
  generalize intsOf x = o
  match o with
  | none => exact Iff.rfl
  | some [] => exact Iff.rfl
  | some [j] => exact wpo_ite
  | some (_ :: _ :: _) => exact Iff.rfl
@[simp] theorem ei_rg2 {fr : MA} : Ei (iRg2 fr) ρ cs QI ↔ Ea fr ρ cs fun rs cs1 => wpd (match intsOf rs with | some [i, j] => some (i, j) | _ => none) fun p => (sm62 p.1 ∧ sm62 p.2) ∧ QI (rngD p.1 (p.2 - p.1).toNat) cs1 := by
  unfold Ei Ea iRg2
  rw [wpo_bind]
  refine iff_of_eq (congrArg _ (funext fun x => funext fun cs1 => propext ?_))
  dsimp only
  generalize intsOf x = o
  match o with
  | none => exact Iff.rfl
  | some [] => exact Iff.rfl
  | some [_] => exact Iff.rfl
  | some [i, j] => exact wpo_ite
  | some (_ :: _ :: _ :: _) => exact Iff.rfl
@[simp] theorem intsOf_nil : intsOf [] = some [] := rfl
@[simp] theorem intsOf_cons {i : Int} {rs : List Rv} : intsOf (.dat (.int i) :: rs) = (intsOf rs).map fun is => i :: is := rfl
def zipR (rs : List Rv) : Option (List D) := match rs with
  | [.dat (.list xs), .dat (.list ys)] => some (zipD xs ys)
  | [.dat (.tuple xs), .dat (.tuple ys)] => some (zipD xs ys)
  | _ => none
@[simp] theorem zipR_l {xs ys : List D} : zipR [.dat (.list xs), .dat (.list ys)] = some (zipD xs ys) := rfl
@[simp] theorem zipR_t {xs ys : List D} : zipR [.dat (.tuple xs), .dat (.tuple ys)] = some (zipD xs ys) := rfl
theorem iZp_eq {fr : MA} : iZp fr = fun ρ cs => (fr ρ cs).bind fun p => (zipR p.1).map fun ds => (ds, p.2) := by
  funext ρ cs
  unfold iZp
  refine congrArg _ (funext fun p => ?_)
  obtain ⟨rs, cs1⟩ := p
  unfold zipR
  dsimp only
  split
  · rfl
  · rfl
  · rename_i h1 h2
    first
      | rfl
      | (split
         · exact (h1 _ _ rfl).elim
         · exact (h2 _ _ rfl).elim
         · rfl)
@[simp] theorem ei_zip {fr : MA} : Ei (iZp fr) ρ cs QI ↔ Ea fr ρ cs fun rs cs1 => wpd (zipR rs) fun ds => QI ds cs1 := by
  unfold Ei Ea
  rw [iZp_eq, wpo_bind]
  refine iff_of_eq (congrArg _ (funext fun x => funext fun cs1 => propext ?_))
  exact wpd_mapo
@[simp] theorem ei_en {fr : MA} : Ei (iEn fr) ρ cs QI ↔ Ea fr ρ cs fun rs cs1 => wpd (match rs with | [r] => lstOf r | _ => none) fun ds => QI (enumD 0 ds) cs1 := by
  unfold Ei Ea iEn
  rw [wpo_bind]
  refine iff_of_eq (congrArg _ (funext fun x => funext fun cs1 => propext ?_))
  match x with
  | [] => exact Iff.rfl
  | [r] => exact wpd_mapo
  | _ :: _ :: _ => exact Iff.rfl
@[simp] theorem lstOf_dat {ds : List D} : lstOf (.dat (.list ds)) = some ds := rfl
@[simp] theorem ea_dat {fr : MA} : Ea (aDat fa fr) ρ cs QA ↔ Ev fa ρ cs fun x cs1 => DatOf x fun d => Ea fr ρ cs1 fun rs cs2 => QA (.dat d :: rs) cs2 := by
  unfold Ev Ea aDat DatOf
  rw [wpo_bind]
  refine iff_of_eq (congrArg _ (funext fun x => funext fun cs1 => propext ?_))
  cases x with
  | own k => exact Iff.rfl
  | exn nm d => exact Iff.rfl
  | gr d k n => exact Iff.rfl
  | _ => exact wpo_map
/-- a fresh list -/
def frOf (r : Rv) : Option (List D) := match r with
  | .fr c => some c
  | _ => none
@[simp] theorem frOf_fr {c : List D} : frOf (.fr c) = some c := rfl
@[simp] theorem ea_own {fr : MA} : Ea (aOwn fa fr) ρ cs QA ↔ Ev fa ρ cs fun x cs1 => wpd (frOf x) fun c => Ea fr ρ (cs1 ++ [some c]) fun rs cs2 => QA (.own cs1.length :: rs) cs2 := by
  unfold Ev Ea aOwn
  rw [wpo_bind]
  refine iff_of_eq (congrArg _ (funext fun x => funext fun cs1 => propext ?_))
  cases x with
  | fr c => exact wpo_map
  | _ => exact Iff.rfl
def two (rs : List Rv) : Option (Rv × Rv) := match rs with
  | [r, t] => some (r, t)
  | _ => none
@[simp] theorem two_ok {r t : Rv} : two [r, t] = some (r, t) := rfl
def three (rs : List Rv) : Option (Rv × Rv × Rv) := match rs with
  | [r, t, u] => some (r, t, u)
  | _ => none
@[simp] theorem three_ok {r t u : Rv} : three [r, t, u] = some (r, t, u) := rfl
@[simp] theorem es_sParO {i j : Nat} {fr : MA} : Es (sParO i j fr) n0 ρ cs QS ↔ Ea fr ρ cs fun rs cs1 => wpd (two rs) fun p => QS (.nx ((ρ.set i (some p.1)).set j (some p.2)) cs1) := by
  unfold Es Ea sParO
  rw [wpo_bindd]
  refine iff_of_eq (congrArg _ (funext fun x => funext fun cs1 => propext ?_))
  match x with
  | [] => exact Iff.rfl
  | [_] => exact Iff.rfl
  | [_, _] => exact Iff.rfl
  | _ :: _ :: _ :: _ => exact Iff.rfl
@[simp] theorem es_sPar3 {i j l : Nat} {fr : MA} : Es (sPar3 i j l fr) n0 ρ cs QS ↔ Ea fr ρ cs fun rs cs1 => wpd (three rs) fun p => QS (.nx (((ρ.set i (some p.1)).set j (some p.2.1)).set l (some p.2.2)) cs1) := by
  unfold Es Ea sPar3
  rw [wpo_bindd]
  refine iff_of_eq (congrArg _ (funext fun x => funext fun cs1 => propext ?_))
  match x with
  | [] => exact Iff.rfl
  | [_] => exact Iff.rfl
  | [_, _] => exact Iff.rfl
  | [_, _, _] => exact Iff.rfl
  | _ :: _ :: _ :: _ :: _ => exact Iff.rfl
@[simp] theorem ev_mLR1 : Ev (mLR1 fa) ρ cs Q ↔ Ev fa ρ cs fun x cs1 => wpd (intOf x) fun n => rgOkB 0 n = true ∧ Q (.fr (rngD 0 (n - 0).toNat)) cs1 := by
  unfold Ev mLR1
  rw [wpo_bind]
  refine iff_of_eq (congrArg _ (funext fun x => funext fun cs1 => propext ?_))
  rw [wpd_bindo]
  refine iff_of_eq (congrArg _ (funext fun n => propext ?_))
  exact wpo_ite
@[simp] theorem ev_mLR2 : Ev (mLR2 fa fb) ρ cs Q ↔ Ev fa ρ cs fun x cs1 => Ev fb ρ cs1 fun y cs2 => wpd (intOf x) fun a => wpd (intOf y) fun b => rgOkB a b = true ∧ Q (.fr (rngD a (b - a).toNat)) cs2 := by
  unfold Ev mLR2
  rw [wpo_bind]
  refine iff_of_eq (congrArg _ (funext fun x => funext fun cs1 => propext ?_))
  rw [wpo_bind]
  refine iff_of_eq (congrArg _ (funext fun y => funext fun cs2 => propext ?_))
  rw [wpd_bindo]
  refine iff_of_eq (congrArg _ (funext fun n => propext ?_))
  rw [wpd_bindo]
  refine iff_of_eq (congrArg _ (funext fun m => propext ?_))
  exact wpo_ite
/-! while: by a measure, I holds ahead of each test -/
theorem wh_rule {c : MT} {b : MS} (I : Rho → Cs → Prop) (μ : Rho → Cs → Nat) (hs : ∀ ρ cs, I ρ cs → Et c ρ cs fun k cs1 => if k = true then Es b n0 ρ cs1 fun o => match o with
    | .nx ρ2 cs2 => I ρ2 cs2 ∧ μ ρ2 cs2 < μ ρ cs
    | .ct ρ2 cs2 => I ρ2 cs2 ∧ μ ρ2 cs2 < μ ρ cs
    | .bk ρ2 cs2 => QS (.nx ρ2 cs2)
    | .rt r cs2 => QS (.rt r cs2) else QS (.nx ρ cs1)) : ∀ (n : Nat) (ρ : Rho) (cs : Cs), μ ρ cs < n → I ρ cs → wpd (wh c b n0 n ρ cs) QS
  | 0, _, _, h, _ => absurd h (Nat.not_lt_zero _)
  | n + 1, ρ, cs, h, hI => by
    rw [show wh c b n0 (n + 1) ρ cs = (c ρ cs).bind fun p => if p.1 = true then (b n0 ρ p.2).bind fun o => match o with
      | .nx ρ2 cs2 => wh c b n0 n ρ2 cs2
      | .ct ρ2 cs2 => wh c b n0 n ρ2 cs2
      | .bk ρ2 cs2 => some (.nx ρ2 cs2)
      | .rt r cs2 => some (.rt r cs2)
    else some (.nx ρ p.2) from rfl, wpo_bindd]
    refine wpo_mono (hs ρ cs hI) fun k cs1 hk => ?_
    cases k with
    | false => exact hk
    | true =>
      rw [if_pos rfl] at hk
      show wpd (if true = true then _ else _) QS
      rw [if_pos rfl, wpd_bind]
      refine wpd_mono hk fun o ho => ?_
      cases o with
      | nx ρ2 cs2 => exact wh_rule I μ hs n ρ2 cs2 (by have := ho.2; omega) ho.1
      | ct ρ2 cs2 => exact wh_rule I μ hs n ρ2 cs2 (by have := ho.2; omega) ho.1
      | bk ρ2 cs2 => exact ho
      | rt r cs2 => exact ho
theorem es_sWh {c : MT} {b : MS} (I : Rho → Cs → Prop) (μ : Rho → Cs → Nat) (h0 : I ρ cs) (hs : ∀ ρ cs, I ρ cs → Et c ρ cs fun k cs1 => if k = true then Es b n0 ρ cs1 fun o => match o with
    | .nx ρ2 cs2 => I ρ2 cs2 ∧ μ ρ2 cs2 < μ ρ cs
    | .ct ρ2 cs2 => I ρ2 cs2 ∧ μ ρ2 cs2 < μ ρ cs
    | .bk ρ2 cs2 => QS (.nx ρ2 cs2)
    | .rt r cs2 => QS (.rt r cs2) else QS (.nx ρ cs1)) : Es (sWh c b) n0 ρ cs QS := by
  obtain ⟨o, e, q⟩ := wpd_iff.mp (wh_rule I μ hs (μ ρ cs + 1) ρ cs (Nat.lt_succ_self _) h0)
  exact wpd_iff.mpr ⟨o, sWh_of e, q⟩
/-! loops -/
def El (h : MG) (b : MS) (n0 : Nat) (ds : List D) (ρ : Rho) (cs : Cs) (Q : Out → Prop) : Prop := wpd (loopM h b n0 ds ρ cs) Q
@[simp] theorem es_sFor {i : MI} {h : MG} {b : MS} : Es (sFor i h b) n0 ρ cs QS ↔ Ei i ρ cs fun ds cs1 => El h b n0 ds ρ cs1 QS := wpo_bindd
@[simp] theorem el_nil {h : MG} {b : MS} : El h b n0 [] ρ cs QS ↔ QS (.nx ρ cs) := Iff.rfl
def Lp (h : MG) (b : MS) (n0 : Nat) (ds : List D) (Q : Out → Prop) : Out → Prop
  | .nx ρ cs => El h b n0 ds ρ cs Q
  | .ct ρ cs => El h b n0 ds ρ cs Q
  | .bk ρ cs => Q (.nx ρ cs)
  | .rt r cs => Q (.rt r cs)
theorem el_cons {h : MG} {b : MS} {d : D} {ds : List D} : El h b n0 (d :: ds) ρ cs QS ↔ Eg h d ρ fun ρ1 => Es b n0 ρ1 cs (Lp h b n0 ds QS) := by
  unfold El Eg Es
  rw [show loopM h b n0 (d :: ds) ρ cs = (h d ρ).bind fun ρ1 => (b n0 ρ1 cs).bind fun o => match o with
    | .nx ρ2 cs2 => loopM h b n0 ds ρ2 cs2
    | .ct ρ2 cs2 => loopM h b n0 ds ρ2 cs2
    | .bk ρ2 cs2 => some (.nx ρ2 cs2)
    | .rt r cs2 => some (.rt r cs2) from rfl, wpd_bind]
  refine iff_of_eq (congrArg _ (funext fun ρ1 => propext ?_))
  rw [wpd_bind]
  refine iff_of_eq (congrArg _ (funext fun o => propext ?_))
  cases o <;> exact Iff.rfl
theorem el_inv {h : MG} {b : MS} (I : Nat → Rho → Cs → Prop) : ∀ {ds : List D} {k : Nat} {ρ : Rho} {cs : Cs}, I k ρ cs → (∀ (i : Nat) (d : D) (ρ : Rho) (cs : Cs), ds[i]? = some d → I (k + i) ρ cs → Eg h d ρ fun ρ1 => Es b n0 ρ1 cs fun o => match o with
    | .nx ρ2 cs2 => I (k + i + 1) ρ2 cs2
    | .ct ρ2 cs2 => I (k + i + 1) ρ2 cs2
    | .bk ρ2 cs2 => QS (.nx ρ2 cs2)
    | .rt r cs2 => QS (.rt r cs2)) → (∀ ρ cs, I (k + ds.length) ρ cs → QS (.nx ρ cs)) → El h b n0 ds ρ cs QS
  | [], k, ρ, cs, h0, _, h2 => h2 ρ cs h0
  | d :: ds, k, ρ, cs, h0, h1, h2 => by
    rw [el_cons]
    refine wpd_mono (h1 0 d ρ cs rfl h0) fun ρ1 e1 => wpd_mono e1 fun o e2 => ?_
    have go : ∀ ρ2 cs2, I (k + 1) ρ2 cs2 → El h b n0 ds ρ2 cs2 QS := fun ρ2 cs2 i2 => el_inv I (k := k + 1) i2 (fun i d' ρ cs hi hI => by
      have := h1 (i + 1) d' ρ cs (by simpa using hi) (by rw [show k + (i + 1) = k + 1 + i by omega]; exact hI)
      rw [show k + (i + 1) = k + 1 + i by omega] at this
      exact this) fun ρ cs hI => h2 ρ cs (by rw [List.length_cons, show k + (ds.length + 1) = k + 1 + ds.length by omega]; exact hI)
    cases o with
    | nx ρ2 cs2 => exact go ρ2 cs2 e2
    | ct ρ2 cs2 => exact go ρ2 cs2 e2
    | bk ρ2 cs2 => exact e2
    | rt r cs2 => exact e2
/-! comprehensions -/
def Ec (h : MG) (t : MT) (f : ME) (ds : List D) (ρ : Rho) (cs : Cs) (acc : List D) (Q : List D → Cs → Prop) : Prop := wpo (compM h t f ds ρ cs acc) Q
@[simp] theorem ev_xComp {i : MI} {h : MG} {t : MT} {vs : List Nat} : Ev (xComp i h t fa vs) ρ cs Q ↔ Ei i ρ cs fun ds cs1 => Ec h t fa ds (wipeR ρ vs) cs1 [] fun l cs2 => Q (.fr l) cs2 := by
  unfold Ev Ei Ec xComp
  rw [wpo_bind]
  refine iff_of_eq (congrArg _ (funext fun x => funext fun cs1 => propext ?_))
  exact wpo_map
@[simp] theorem ec_nil {h : MG} {t : MT} {acc : List D} {Q : List D → Cs → Prop} : Ec h t fa [] ρ cs acc Q ↔ Q acc cs := Iff.rfl
/-- one turn of a comprehension, the new list's cell last -/
theorem ec_cons {h : MG} {t : MT} {d : D} {ds acc : List D} {Q : List D → Cs → Prop} (e : Eg h d ρ fun ρ1 => Et t ρ1 (cs ++ [some acc]) fun b cs2 => if b = true then Ev fa ρ1 cs2 fun r cs3 => DatOf r fun x => ∃ cs4 c, cs3 = cs4 ++ [some c] ∧ cs4.length = cs.length ∧ c.length < sizeLine ∧ Ec h t fa ds ρ cs4 (c ++ [x]) Q
    else ∃ cs4 c, cs2 = cs4 ++ [some c] ∧ cs4.length = cs.length ∧ Ec h t fa ds ρ cs4 c Q) : Ec h t fa (d :: ds) ρ cs acc Q := by
  unfold Ec
  rw [show compM h t fa (d :: ds) ρ cs acc = (h d ρ).bind fun ρ1 => (t ρ1 (cs ++ [some acc])).bind fun p => if p.1 = true then (fa ρ1 p.2).bind fun q => match deg q.1, q.2[cs.length]? with
      | .dat e, some (some c) => if c.length < sizeLine then compM h t fa ds ρ (q.2.take cs.length) (c ++ [e]) else none
      | _, _ => none
    else match p.2[cs.length]? with
      | some (some c) => compM h t fa ds ρ (p.2.take cs.length) c
      | _ => none from rfl, wpd_bindo]
  refine wpd_mono e fun ρ1 e1 => ?_
  rw [wpo_bind]
  refine wpo_mono e1 fun b cs2 e2 => ?_
  cases b with
  | true =>
    rw [if_pos rfl] at e2
    show wpo (if true = true then _ else _) _
    rw [if_pos rfl, wpo_bind]
    refine wpo_mono e2 fun r cs3 e3 => ?_
    obtain ⟨x, ex, cs4, c, rfl, hl, hz, e4⟩ := wpd_iff.mp e3
    have er : deg r = .dat x := by
      cases q : deg r with
      | dat d => rw [q] at ex; exact congrArg Rv.dat (Option.some.inj ex)
      | own k => rw [q] at ex; cases ex
      | fr c => rw [q] at ex; cases ex
      | exn nm d => rw [q] at ex; cases ex
      | ft d => rw [q] at ex; cases ex
      | gr d k n => rw [q] at ex; cases ex
    have e5 : (cs4 ++ [some c])[cs.length]? = some (some c) := by rw [← hl]; simp
    have e6 : (cs4 ++ [some c]).take cs.length = cs4 := by rw [← hl]; simp
    dsimp only
    rw [er, e5]
    dsimp only
    rw [if_pos hz, e6]
    exact e4
  | false =>
    have e2' : ∃ cs4 c, cs2 = cs4 ++ [some c] ∧ cs4.length = cs.length ∧ Ec h t fa ds ρ cs4 c Q := e2
    obtain ⟨cs4, c, rfl, hl, e4⟩ := e2'
    have e5 : (cs4 ++ [some c])[cs.length]? = some (some c) := by rw [← hl]; simp
    have e6 : (cs4 ++ [some c]).take cs.length = cs4 := by rw [← hl]; simp
    dsimp only
    rw [if_neg (by decide), e5]
    dsimp only
    rw [e6]
    exact e4
/-- a comprehension that changes no cell: filter and map -/
theorem ec_pure {h : MG} {t : MT} (P : D → Bool) (F : D → D) {Q : List D → Cs → Prop} : ∀ {ds acc : List D}, (∀ d ∈ ds, ∀ cs', Eg h d ρ fun ρ1 => Et t ρ1 cs' fun b cs2 => b = P d ∧ cs2 = cs' ∧ (P d = true → Ev fa ρ1 cs' fun r cs3 => cs3 = cs' ∧ DatOf r fun x => x = F d)) → acc.length + ds.length ≤ sizeLine → Q (acc ++ (ds.filter P).map F) cs → Ec h t fa ds ρ cs acc Q
  | [], acc, _, _, q => by simpa using q
  | d :: ds, acc, hd, hz, q => by
    refine ec_cons (wpd_mono (hd d (List.mem_cons_self ..) (cs ++ [some acc])) fun ρ1 e1 => wpo_mono e1 fun b cs2 e2 => ?_)
    obtain ⟨rfl, rfl, e3⟩ := e2
    rw [List.length_cons] at hz
    have hd' := fun d' h' => hd d' (List.mem_cons_of_mem _ h')
    by_cases hp : P d = true
    · rw [if_pos hp]
      refine wpo_mono (e3 hp) fun r cs3 e4 => ?_
      obtain ⟨rfl, e5⟩ := e4
      refine wpd_mono e5 fun x ex => ?_
      subst ex
      refine ⟨cs, acc, rfl, rfl, by omega, ec_pure P F hd' (by rw [List.length_append]; simp; omega) ?_⟩
      rw [List.filter_cons_of_pos hp, List.map_cons] at q
      rw [List.append_assoc]
      exact q
    · rw [if_neg hp]
      refine ⟨cs, acc, rfl, rfl, ec_pure P F hd' (by omega) ?_⟩
      rw [List.filter_cons_of_neg hp] at q
      exact q
/-- a comprehension by an invariant: I turn, the list so far, the cells without it -/
theorem ec_inv {h : MG} {t : MT} (I : Nat → List D → Cs → Prop) {Q : List D → Cs → Prop} : ∀ {ds : List D} {k : Nat} {acc : List D} {cs : Cs}, I k acc cs → (∀ (i : Nat) (d : D) (acc : List D) (cs : Cs), ds[i]? = some d → I (k + i) acc cs → Eg h d ρ fun ρ1 => Et t ρ1 (cs ++ [some acc]) fun b cs2 => if b = true then Ev fa ρ1 cs2 fun r cs3 => DatOf r fun x => ∃ cs4 c, cs3 = cs4 ++ [some c] ∧ cs4.length = cs.length ∧ c.length < sizeLine ∧ I (k + i + 1) (c ++ [x]) cs4
    else ∃ cs4 c, cs2 = cs4 ++ [some c] ∧ cs4.length = cs.length ∧ I (k + i + 1) c cs4) → (∀ acc cs, I (k + ds.length) acc cs → Q acc cs) → Ec h t fa ds ρ cs acc Q
  | [], k, acc, cs, h0, _, h2 => h2 acc cs h0
  | d :: ds, k, acc, cs, h0, h1, h2 => by
    have go : ∀ c cs4, I (k + 1) c cs4 → Ec h t fa ds ρ cs4 c Q := fun c cs4 i2 => ec_inv I (k := k + 1) i2 (fun i d' acc cs hi hI => by
      have := h1 (i + 1) d' acc cs (by simpa using hi) (by rw [show k + (i + 1) = k + 1 + i by omega]; exact hI)
      rw [show k + (i + 1) = k + 1 + i by omega] at this
      exact this) fun acc cs hI => h2 acc cs (by rw [List.length_cons, show k + (ds.length + 1) = k + 1 + ds.length by omega]; exact hI)
    refine ec_cons (wpd_mono (h1 0 d acc cs rfl h0) fun ρ1 e1 => wpo_mono e1 fun b cs2 e2 => ?_)
    by_cases hb : b = true
    · rw [if_pos hb] at e2 ⊢
      refine wpo_mono e2 fun r cs3 e3 => wpd_mono e3 fun x e4 => ?_
      obtain ⟨cs4, c, a1, a2, a3, a4⟩ := e4
      exact ⟨cs4, c, a1, a2, a3, go _ _ a4⟩
    · rw [if_neg hb] at e2 ⊢
      obtain ⟨cs4, c, a1, a2, a4⟩ := e2
      exact ⟨cs4, c, a1, a2, go _ _ a4⟩
end
end DL
/-! EX3: what is asked of a caught exception: isinstance, its value. -/
namespace DL
open PySem PySem.Spec PyProof.Rows L2
section
variable {X : Cx}
/-- the module's class nm, at C -/
structure ClsOf (K : PySem.W.Frag) (mg : Str → Option Value) (nm : Str) (C : Addr) : Prop where
  g : mg nm = some (.ref C)
  mem : (nm, C) ∈ CLs K
  no : ∀ T ∈ (["NoneType", "bool", "int", "str", "list", "tuple", "dict", "function"] : List String), PySem.W.kitOne K (.type T) (.ref C) = some false
theorem ClsOf.nod {K : PySem.W.Frag} {mg : Str → Option Value} {nm : Str} {C : Addr} (h : ClsOf K mg nm C) (d : D) : PySem.W.kitOne K (.type (tyN d)) (.ref C) = some false := by
  refine h.no _ ?_
  cases d with
  | dict kvs =>
    show (if isFn kvs = true then "function" else "dict") ∈ _
    split <;> simp
  | _ => simp [tyN]
/-- isinstance(e, nm), nm a class of the module -/
def mIsX (nm : Str) (fa : ME) : ME := fun ρ cs => (fa ρ cs).bind fun p => match p.1 with
  | .exn n _ => some (db (subN n nm), p.2)
  | r => (rd (deg r) p.2).map fun _ => (db false, p.2)
theorem call_isX : CallR X (.builtin "isinstance") (fun xs H Q => rIsF X.K xs H Q ∨ rIsK X.K xs H Q) := by
  intro pins s σ H xs us Q I r h
  rcases h with h | h
  · exact call_isF pins s σ H xs us Q I r h
  · exact call_isK pins s σ H xs us Q I r h
theorem xe_isX {C : Addr} {e : Expr} {x : Str} {f : ME} {p pt pos : Pos} (hg : Gl X "isinstance") (hm : X.mg "isinstance" = none) (hx : Gl X x) (hc : ClsOf X.K X.mg x C) (he : XE X f e) (hd : (x == ("__debug__" : Str)) = false := by decide)
    (h1 : starEach [e, .Name x pt] X.env = (false, eval e X.env) :: starEach [.Name x pt] X.env := by rfl) (hpl : (backTo pos (starEach [.Name x pt] X.env)).any (·.1) = false := by rfl) :
    XE X (mIsX x f) (.Call (.Name "isinstance" p) [e, .Name x pt] [] pos) :=
  pe_weak (pe_callB call_isX hg hm (by decide +kernel) (pa_cons he (pa_cons (pe_glob hx hc.g (v := .ref C) rfl hd) pa_nil) h1) (he := h1) (hpl := hpl)) fun σ H Q ⟨ρ, O, cs, z, cs', e0, en, w, p⟩ => by
    obtain ⟨⟨r, cs1⟩, g1, g3⟩ := Option.bind_eq_some_iff.mp e0
    refine ⟨ρ, O, cs, r, cs1, g1, en, w, fun v1 H1 c1 w1 r1 => ?_⟩
    cases r with
    | exn n d =>
      cases g3
      obtain ⟨a, C', dd, y, rfl, k, q1, q2, q3⟩ := r1
      exact .inr ⟨a, C', dd, _, .ref C, .ref C, _, rfl, k.ke, hd_le _ _ q1, hd_le _ _ q2, fun u ru => ru, k.sub _ hc.mem, post_bool w1 (p.step c1 w1)⟩
    | dat d =>
      obtain ⟨d', g4, g5⟩ := Option.map_eq_some_iff.mp (show (rd (deg (.dat d)) cs1).map (fun _ => (db false, cs1)) = some (z, cs') from g3)
      cases g5
      exact .inl ⟨v1, .ref C, _, _, false, rfl, .own C, tyX_of (r1.deg.sh w1 g4), hc.nod _, post_bool w1 (p.step c1 w1)⟩
    | own k =>
      obtain ⟨d', g4, g5⟩ := Option.map_eq_some_iff.mp (show (rd (deg (.own k)) cs1).map (fun _ => (db false, cs1)) = some (z, cs') from g3)
      cases g5
      exact .inl ⟨v1, .ref C, _, _, false, rfl, .own C, tyX_of (r1.deg.sh w1 g4), hc.nod _, post_bool w1 (p.step c1 w1)⟩
    | fr c =>
      obtain ⟨d', g4, g5⟩ := Option.map_eq_some_iff.mp (show (rd (deg (.fr c)) cs1).map (fun _ => (db false, cs1)) = some (z, cs') from g3)
      cases g5
      exact .inl ⟨v1, .ref C, _, _, false, rfl, .own C, tyX_of (r1.deg.sh w1 g4), hc.nod _, post_bool w1 (p.step c1 w1)⟩
    | ft c =>
      obtain ⟨d', g4, g5⟩ := Option.map_eq_some_iff.mp (show (rd (deg (.ft c)) cs1).map (fun _ => (db false, cs1)) = some (z, cs') from g3)
      cases g5
      exact .inl ⟨v1, .ref C, _, _, false, rfl, .own C, tyX_of (r1.deg.sh w1 g4), hc.nod _, post_bool w1 (p.step c1 w1)⟩
    | gr d k n => cases (show (none : Option D).map (fun _ => (db false, cs1)) = some (z, cs') from g3)
/-- e.value -/
def mVal (fa : ME) : ME := fun ρ cs => (fa ρ cs).bind fun p => match p.1 with
  | .exn _ d => some (.dat d, p.2)
  | _ => none
theorem xe_val {e : Expr} {f : ME} {pos : Pos} (he : XE X f e) (hb : attributeBase e "value" X.env (eval e X.env) = eval e X.env := by rfl) : XE X (mVal f) (.Attribute e "value" pos) :=
  pe_weak (pe_xk (f := "value") he hb) fun σ H Q ⟨ρ, O, cs, z, cs', e0, en, w, p⟩ => by
    obtain ⟨⟨r, cs1⟩, g1, g3⟩ := Option.bind_eq_some_iff.mp e0
    refine ⟨ρ, O, cs, r, cs1, g1, en, w, fun v1 H1 c1 w1 r1 => ?_⟩
    cases r with
    | exn n d =>
      cases g3
      obtain ⟨a, C', dd, y, rfl, k, q1, q2, q3⟩ := r1
      exact ⟨a, C', dd, _, y, rfl, k.ke, k.nov, hd_le _ _ q1, hd_le _ _ q2, by simp [List.lookup], p y H1 c1 w1 q3⟩
    | _ => cases g3
/-- x is None, x is not None: x anything -/
def rIsN (f : Bool → Bool) : R2 := fun x y H Q => y = .non ∧ Q (.bl (f (decide (x = .non)))) H
theorem op_isN : OpR X (compareOp .Is) (rIsN id) := by
  intro pins s σ H x y v u Q I rx ry h
  obtain ⟨rfl, q⟩ := h
  cases (show u = .none from ry)
  exact is_none_gen ⟨.bl _, H, I, by rw [rx.none_iff]; rfl, q⟩
theorem op_isnN : OpR X (compareOp .IsNot) (rIsN not) := by
  intro pins s σ H x y v u Q I rx ry h
  obtain ⟨rfl, q⟩ := h
  cases (show u = .none from ry)
  exact isnot_none_gen ⟨.bl _, H, I, by rw [rx.none_iff]; rfl, q⟩
def mIsN (f : Bool → Bool) (fa : ME) : ME := fun ρ cs => (fa ρ cs).bind fun p => match p.1 with
  | .exn _ _ => some (db (f false), p.2)
  | r => (rd (deg r) p.2).map fun d => (db (f (isNonD d)), p.2)
theorem non_of {K : PySem.W.Frag} {O : List (Option Addr)} {H : Hp} {v : V} {d : D} (h : Sh K O H v d) : decide (v = .non) = isNonD d := by
  cases d with
  | none => cases h.none; rfl
  | bool b => cases h.bool; rfl
  | int i => cases h.int; rfl
  | str x => obtain ⟨rfl, _⟩ := h.str; rfl
  | list ds => obtain ⟨a, vs, rfl, _⟩ := h.list; rfl
  | tuple ds => obtain ⟨a, vs, rfl, _⟩ := h.tuple; rfl
  | dict ds =>
    by_cases hf : isFn ds = true
    · rcases h with h | ⟨a, vs, ds', rfl, e, h1, h2⟩
      · cases h with
        | dct q e r => rfl
        | fn q => rfl
      · cases e
    · obtain ⟨a, vs, rfl, _⟩ := h.dict (by simpa using hf)
      rfl
theorem isN_of {f : Bool → Bool} {fa : ME} {σ : L2.St} {H : Hp} {Q : VK} (h : tX X.K (mIsN f fa) σ H Q) : tX X.K fa σ H fun x H1 => rIsN f x .non H1 Q := by
  obtain ⟨ρ, O, cs, z, cs', e0, en, w, p⟩ := h
  obtain ⟨⟨r, cs1⟩, g1, g3⟩ := Option.bind_eq_some_iff.mp e0
  refine ⟨ρ, O, cs, r, cs1, g1, en, w, fun v1 H1 c1 w1 r1 => ⟨rfl, ?_⟩⟩
  cases r with
  | exn n d =>
    cases g3
    obtain ⟨a, C', dd, y, rfl, _⟩ := r1
    exact post_bool w1 (p.step c1 w1)
  | dat d =>
    obtain ⟨d', g4, g5⟩ := Option.map_eq_some_iff.mp (show (rd (deg (.dat d)) cs1).map _ = some (z, cs') from g3)
    cases g5
    rw [non_of (r1.deg.sh w1 g4)]
    exact post_bool w1 (p.step c1 w1)
  | own k =>
    obtain ⟨d', g4, g5⟩ := Option.map_eq_some_iff.mp (show (rd (deg (.own k)) cs1).map _ = some (z, cs') from g3)
    cases g5
    rw [non_of (r1.deg.sh w1 g4)]
    exact post_bool w1 (p.step c1 w1)
  | fr c =>
    obtain ⟨d', g4, g5⟩ := Option.map_eq_some_iff.mp (show (rd (deg (.fr c)) cs1).map _ = some (z, cs') from g3)
    cases g5
    rw [non_of (r1.deg.sh w1 g4)]
    exact post_bool w1 (p.step c1 w1)
  | ft c =>
    obtain ⟨d', g4, g5⟩ := Option.map_eq_some_iff.mp (show (rd (deg (.ft c)) cs1).map _ = some (z, cs') from g3)
    cases g5
    rw [non_of (r1.deg.sh w1 g4)]
    exact post_bool w1 (p.step c1 w1)
  | gr d k n => cases (show (none : Option D).map (fun d => (db (f (isNonD d)), cs1)) = some (z, cs') from g3)
theorem xe_isN {a : Expr} {fa : ME} {j : Nat} {pos pos' : Pos} (ha : XE X fa a) : XE X (mIsN id fa) (.Compare a [.Is] [.Constant .none j pos'] pos) :=
  pe_weak (pe_cmpR op_isN ha pe_non (by rfl)) fun σ H Q h => isN_of h
theorem xe_isnN {a : Expr} {fa : ME} {j : Nat} {pos pos' : Pos} (ha : XE X fa a) : XE X (mIsN not fa) (.Compare a [.IsNot] [.Constant .none j pos'] pos) :=
  pe_weak (pe_cmpR op_isnN ha pe_non (by rfl)) fun σ H Q h => isN_of h
theorem xt_isN {a : Expr} {fa : ME} {j : Nat} {pos pos' : Pos} (ha : XE X fa a) : XT X (mTB (mIsN id fa)) (.Compare a [.Is] [.Constant .none j pos'] pos) :=
  pt_weak (pt_cmpR op_isN ha pe_non (by rfl)) (tTest_of fun σ H Q h => isN_of h)
theorem xt_isnN {a : Expr} {fa : ME} {j : Nat} {pos pos' : Pos} (ha : XE X fa a) : XT X (mTB (mIsN not fa)) (.Compare a [.IsNot] [.Constant .none j pos'] pos) :=
  pt_weak (pt_cmpR op_isnN ha pe_non (by rfl)) (tTest_of fun σ H Q h => isN_of h)
/-- a module's constant that is data: at every heap -/
structure GVal (K : PySem.W.Frag) (mg : Str → Option Value) (x : Str) (d : D) : Prop where
  at_ : ∃ a : Addr, mg x = some (.ref a) ∧ ∀ H, Rp K H (.ref a) d
theorem xe_gval {x : Str} {d : D} {pos : Pos} (hg : Gl X x) (g : GVal X.K X.mg x d) (hd : (x == ("__debug__" : Str)) = false := by decide) : XE X (xC d) (.Name x pos) := by
  obtain ⟨a, h1, h2⟩ := g.at_
  refine pe_weak (pe_glob hg h1 (v := .ref a) rfl hd) fun σ H Q ⟨ρ, O, cs, r', cs', e, en, w, p⟩ => ?_
  cases e
  exact p (.ref a) H .refl w (h2 _)
end
end DL
/-! EX4: bodies that may raise: a layer over the plain statements. -/
namespace DL
open PySem PySem.Spec PyProof.Rows L2
/-- how a raising body ends: an exception (its class's name, its value), or as plain ones -/
inductive XOu where
  | ex (nm : Str) (d : D) (ρ : Rho) (cs : Cs)
  | out (o : Out)
abbrev MX := Nat → Rho → Cs → Option XOu
/-- an exception in the air: of class cls, its dict d -/
def ExF (K : PySem.W.Frag) (H : Hp) (nm : Str) (d : D) (cls : Value) (dd : Option Addr) : Prop := ∃ (C a : Addr) (y : V), cls = .ref C ∧ dd = some a ∧ Card K nm C ∧ H a = some (.xd [(("value" : Str), y)]) ∧ Rp K H y d
def PostX' (K : PySem.W.Frag) (n0 : Nat) (O : List (Option Addr)) (H : Hp) (x : XOu) (W : WX) (D : Ends) : Prop :=
  match x with
  | .ex nm d ρ' cs' => ∀ cls dd σ' O' H', Ext n0 O O' H → Ch O H H' → EnvOk K O' H' ρ' σ' → Wd K O' cs' H' → ExF K (hd O' H') nm d cls dd → W cls dd σ' H'
  | .out o => PostS K n0 O H o D
def tSX (K : PySem.W.Frag) (f : MX) (W : WX) : TS := fun D σ H => ∃ n0 ρ O cs x, f n0 ρ cs = some x ∧ n0 ≤ O.length ∧ EnvOk K O H ρ σ ∧ Wd K O cs H ∧ PostX' K n0 O H x W D
def XSX (X : Cx) (f : MX) (b : List Stmt) : Prop := ∀ W, Takes X W → PSs X b (tSX X.K f W)
section
variable {X : Cx}
/-- plain statements at the end -/
def xTail (g : MS) : MX := fun n0 ρ cs => (g n0 ρ cs).map .out
theorem xsx_tail {g : MS} {b : List Stmt} (h : XSs X.nox g b) : XSX X (xTail g) b := fun W tk => by
  have h' : PSs X b (tS X.K g) := PSs.nox h
  refine pss_weak h' fun D σ H ⟨n0, ρ, O, cs, x, e0, hn, en, w, p⟩ => ?_
  obtain ⟨o, e1, rfl⟩ := Option.map_eq_some_iff.mp e0
  exact ⟨n0, ρ, O, cs, o, e1, hn, en, w, p⟩
theorem PostX'.step {K : PySem.W.Frag} {n0 : Nat} {O O1 : List (Option Addr)} {H H1 : Hp} {x : XOu} {W : WX} {D : Ends} {cs cs1 : Cs} (h : PostX' K n0 O H x W D) (w : Wd K O cs H) (w1 : Wd K O1 cs1 H1) (e : Ext n0 O O1 H) (c : Ch O H H1) : PostX' K n0 O1 H1 x W D := by
  cases x with
  | ex nm d ρ' cs' => exact fun cls dd σ' O' H' e' c' en' w' => h cls dd σ' O' H' (e.trans w w1 c e') (c.ext e c') en' w'
  | out o => exact PostS.step (show PostS K n0 O H o D from h) w w1 e c
/-- a plain statement, then the rest -/
def xSeq (f : MS) (g : MX) : MX := fun n0 ρ cs => (f n0 ρ cs).bind fun o => match o with
  | .nx ρ1 cs1 => g n0 ρ1 cs1
  | o => some (.out o)
theorem ps_nox {st : Stmt} {t : TS} (h : PS X.nox st t) : PS X st t := ⟨fun pins s σ H D I hw =>
  wpAny_mono (h.run pins s σ H D (I.wish _) hw) (fun _ _ q => q.unwish) fun _ _ z => False.elim z⟩
theorem xsx_cons {st : Stmt} {rest : List Stmt} {f : MS} {g : MX} (h1 : XS X.nox f st) (h2 : XSX X g rest) : XSX X (xSeq f g) (st :: rest) := fun W tk => by
  have h1' : PS X st (tS X.K f) := ps_nox h1
  refine pss_weak (pss_cons h1' (h2 W tk)) fun D σ H ⟨n0, ρ, O, cs, x, e0, hn, en, w, p⟩ => ?_
  obtain ⟨o, e1, e2⟩ := Option.bind_eq_some_iff.mp e0
  refine ⟨n0, ρ, O, cs, o, e1, hn, en, w, ?_⟩
  cases o with
  | nx ρ1 cs1 =>
    intro σ1 O1 H1 ex1 c1 en1 w1
    exact ⟨n0, ρ1, O1, cs1, x, e2, ex1.len hn, en1, w1, p.step w w1 ex1 c1⟩
  | rt r cs1 =>
    cases e2
    exact p
  | bk ρ1 cs1 =>
    cases e2
    exact p
  | ct ρ1 cs1 =>
    cases e2
    exact p
/-- a statement that may raise -/
def X1 (X : Cx) (f : MX) (st : Stmt) : Prop := ∀ W, Takes X W → PS X st (tSX X.K f W)
def xOut (f : MS) : MX := fun n0 ρ cs => (f n0 ρ cs).map .out
theorem x1_plain {st : Stmt} {f : MS} (h : XS X.nox f st) : X1 X (xOut f) st := fun W tk => by
  have h' : PS X st (tS X.K f) := ps_nox h
  refine ps_weak h' fun D σ H ⟨n0, ρ, O, cs, x, e0, hn, en, w, p⟩ => ?_
  obtain ⟨o, e1, rfl⟩ := Option.map_eq_some_iff.mp e0
  exact ⟨n0, ρ, O, cs, o, e1, hn, en, w, p⟩
def xSq (f g : MX) : MX := fun n0 ρ cs => (f n0 ρ cs).bind fun x => match x with
  | .out (.nx ρ1 cs1) => g n0 ρ1 cs1
  | x => some x
theorem xsx_sq {st : Stmt} {rest : List Stmt} {f g : MX} (h1 : X1 X f st) (h2 : XSX X g rest) : XSX X (xSq f g) (st :: rest) := fun W tk => by
  refine pss_weak (pss_cons (h1 W tk) (h2 W tk)) fun D σ H ⟨n0, ρ, O, cs, x, e0, hn, en, w, p⟩ => ?_
  obtain ⟨y, e1, e2⟩ := Option.bind_eq_some_iff.mp e0
  refine ⟨n0, ρ, O, cs, y, e1, hn, en, w, ?_⟩
  cases y with
  | ex nm d ρ1 cs1 =>
    cases e2
    exact p
  | out o =>
    cases o with
    | nx ρ1 cs1 =>
      intro σ1 O1 H1 ex1 c1 en1 w1
      exact ⟨n0, ρ1, O1, cs1, x, e2, ex1.len hn, en1, w1, p.step w w1 ex1 c1⟩
    | rt r cs1 =>
      cases e2
      exact p
    | bk ρ1 cs1 =>
      cases e2
      exact p
    | ct ρ1 cs1 =>
      cases e2
      exact p
theorem xsx_one {st : Stmt} {f : MX} (h1 : X1 X f st) : XSX X f [st] := fun W tk => pss_one (h1 W tk)
def xNil : MX := fun _ ρ cs => some (.out (.nx ρ cs))
theorem xsx_nil : XSX X xNil [] := fun W tk => pss_weak pss_nil fun D σ H ⟨n0, ρ, O, cs, out, e, hn, en, w, p⟩ => by
  cases e
  exact p σ O H .refl .refl en w
def xIf (c : MT) (f g : MX) : MX := fun n0 ρ cs => (c ρ cs).bind fun p => if p.1 = true then f n0 ρ p.2 else g n0 ρ p.2
theorem x1_if {c : Expr} {a b : List Stmt} {t : MT} {f g : MX} {pos : Pos} (hc : XT X.nox t c) (ha : XSX X f a) (hb : XSX X g b) : X1 X (xIf t f g) (.If c a b pos) := fun W tk => by
  have hc' : PT X c (tXT X.K t) := PT.nox hc
  refine ps_weak (ps_if hc' (ha W tk) (hb W tk)) fun D σ H ⟨n0, ρ, O, cs, x, e0, hn, en, w, p⟩ => ?_
  obtain ⟨⟨k, cs1⟩, h1, h2⟩ := Option.bind_eq_some_iff.mp e0
  refine ⟨ρ, O, cs, k, cs1, h1, en, w, fun H' c' w' => ?_⟩
  have p' := p.step w w' .refl c'
  cases k with
  | true => exact ⟨n0, ρ, O, cs1, x, h2, hn, en.ch c', w', p'⟩
  | false => exact ⟨n0, ρ, O, cs1, x, h2, hn, en.ch c', w', p'⟩
/-- raise nm(e) -/
def xRaise (nm : Str) (fe : ME) : MX := fun _ ρ cs => (fe ρ cs).bind fun p => match deg p.1 with
  | .dat d => some (.ex nm d ρ p.2)
  | _ => none
/-- the class nm, which may be raised, at C -/
structure RaC (P : Program) (K : PySem.W.Frag) (mg : Str → Option Value) (nm : Str) : Prop where
  ex : ∃ (C D fI : Addr) (qual : Str), SEX.SeTxt P K qual D fI ∧ SEX.SeCls K D fI C ∧ mg nm = some (.ref C) ∧ mg "super" = none ∧ Card K nm C
theorem x1_raise {nm : Str} {a : Expr} {fe : ME} {p pos pos2 : Pos} {k : Nat} (R : RaC X.prog X.K X.mg nm) (hc : X.calm = true) (hr : Room k X.A) (ha : XE X.nox fe a) (hg : Gl X nm)
    (hdb : (nm == ("__debug__" : Str)) = false := by decide) (he : starEach (a :: []) X.env = (false, eval a X.env) :: starEach [] X.env := by rfl) (hpl : (backTo pos (starEach [] X.env)).any (·.1) = false := by rfl) :
    X1 X (xRaise nm fe) (.Raise (some (.Call (.Name nm p) [a] [] pos)) none pos2) := fun W tk => by
  obtain ⟨C, D, fI, qual, T, TC, gC, hms, cd⟩ := R.ex
  have ha' : PE X a (tX X.K fe) := PE.nox ha
  refine ps_weak (ps_raise hc tk (pmk_se T TC gC hms hr (pa_cons ha' pa_nil he) hg hdb he hpl)) fun D' σ H ⟨n0, ρ, O, cs, x, e0, hn, en, w, p⟩ => ?_
  obtain ⟨⟨r, cs1⟩, h1, h2⟩ := Option.bind_eq_some_iff.mp e0
  refine ⟨ρ, O, cs, r, cs1, h1, en, w, fun v1 H1 c1 w1 r1 => ⟨v1, rfl, fun d hd => ?_⟩⟩
  have rr := r1.deg
  dsimp only at h2
  split at h2
  · rename_i y hy
    cases h2
    rw [hy] at rr
    have c2 : Ch O H1 (upd H1 d (.xd [(("value" : Str), v1)])) := ch_new hd
    exact p (.ref C) (some d) σ O _ .refl (c1.trans c2) (en.ch (c1.trans c2)) (w1.new hd) ⟨C, d, v1, rfl, rfl, cd, hd_of (w1.fresh hd) upd_same, Rp.mono c2.data rr⟩
  · cases h2
end
/-! ### defs that may raise -/
/-- what a call of such a def gives -/
inductive RX where
  | ex (nm : Str) (d : D) (cs : Cs)
  | ok (r : Rv) (cs : Cs)
abbrev MFX := List Rv → Cs → Option RX
def finM (n : Nat) (o : Out) : Option (Rv × Cs) := match o with
  | .rt (.dat d) cs' => some (.dat d, cs'.take n)
  | .rt (.ft d) cs' => some (.ft d, cs'.take n)
  | .rt (.own k) cs' => if n ≤ k then (match cs'[k]? with
    | some (some c) => some (.fr c, cs'.take n)
    | _ => none) else none
  | .nx _ cs' => some (.dat .none, cs'.take n)
  | _ => none
def finX (n : Nat) (x : XOu) : Option RX := match x with
  | .ex nm d _ cs' => some (.ex nm d (cs'.take n))
  | .out o => (finM n o).map fun p => .ok p.1 p.2
def fnX (n : Nat) (b : MX) : MFX := fun rs cs => (b cs.length (rs.map some ++ List.replicate (n - rs.length) none) cs).bind (finX cs.length)
theorem ExF.mono {K : PySem.W.Frag} {H H' : Hp} (h : ∀ a o, H a = some o → H' a = some o) {nm : Str} {d : D} {cls : Value} {dd : Option Addr} (q : ExF K H nm d cls dd) : ExF K H' nm d cls dd :=
  let ⟨C, a, y, e1, e2, k, h1, r⟩ := q
  ⟨C, a, y, e1, e2, k, h _ _ h1, r.mono h⟩
/-- what the caller is told -/
def PostR (K : PySem.W.Frag) (O : List (Option Addr)) (H : Hp) (x : RX) (Q : VK) (E : L2.XK) : Prop := match x with
  | .ex nm d cs' => ∀ cls dd H', Ch O H H' → Wd K O cs' H' → ExF K (hd O H') nm d cls dd → E cls dd H'
  | .ok r cs' => PostX K O H r cs' Q
theorem post_fin {K : PySem.W.Frag} {O : List (Option Addr)} {cs cs' : Cs} {H : Hp} {o : Out} {r : Rv} {Q : VK} (wd : Wd K O cs H) (h2 : finM cs.length o = some (r, cs')) (p : PostX K O H r cs' Q) : PostS K cs.length O H o { nx := fun _ H' => Q .non H', rt := Q } := by
  cases o with
  | rt r0 cs1 =>
    intro v O' H' ex c w' ar'
    cases r0 with
    | dat d =>
      cases h2
      obtain ⟨a1, a2⟩ := body_end (r := .dat d) (r0 := .dat d) wd ex c w' ar' (.inl ⟨d, rfl, rfl⟩)
      exact p v H' c a1 a2
    | own j =>
      have h3 : (if cs.length ≤ j then (match cs1[j]? with
        | some (some c) => some (Rv.fr c, cs1.take cs.length)
        | _ => none) else none) = some (r, cs') := h2
      by_cases hj : cs.length ≤ j
      · rw [if_pos hj] at h3
        split at h3
        · rename_i l hl'
          cases h3
          obtain ⟨a1, a2⟩ := body_end (r := .fr l) (r0 := .own j) wd ex c w' ar' (.inr ⟨j, l, rfl, hj, hl', rfl⟩)
          exact p v H' c a1 a2
        · cases h3
      · rw [if_neg hj] at h3; cases h3
    | fr l => cases h2
    | exn nm d => cases h2
    | ft d =>
      cases h2
      obtain ⟨z1, as, z2, z3, z4, z5⟩ := ar'
      have eO : O'.take cs.length = O := ex.take_eq wd.len
      have w2 := w'.take cs.length
      rw [eO] at w2
      have sb : ∀ a o, hd O' H' a = some o → hd O H' a = some o := fun a o q => by
        obtain ⟨m, e⟩ := hd_some q
        exact hd_of (fun z => m (live_take (n := cs.length) (by rw [eO]; exact z))) e
      refine p v H' c w2 ⟨z1.mono sb, as, z2.mono sb, z3, fun a ha => ?_, z5.mono sb⟩
      obtain ⟨⟨y1, y2⟩, y3⟩ := z4 a ha
      have nl : a ∉ live O := fun z => by
        obtain ⟨i, q⟩ := mem_live.mp z
        exact y2 i (by rw [wd.len]; exact (List.getElem?_eq_some_iff.mp q).1) q
      exact ⟨y1 nl, nl⟩
    | gr d k n => cases h2
  | nx ρ1 cs1 =>
    cases h2
    intro σ' O' H' ex c en' w'
    obtain ⟨a1, a2⟩ := body_end (r0 := .dat .none) (r := .dat .none) (v := .non) wd ex c w' .non (.inl ⟨_, rfl, rfl⟩)
    exact p .non H' c a1 a2
  | bk _ _ => cases h2
  | ct _ _ => cases h2
theorem post_finX {K : PySem.W.Frag} {O : List (Option Addr)} {cs : Cs} {H : Hp} {y : XOu} {x : RX} {Q : VK} {E : L2.XK} (wd : Wd K O cs H) (h2 : finX cs.length y = some x) (p : PostR K O H x Q E) : PostX' K cs.length O H y (fun cls d _ H => E cls d H) { nx := fun _ H' => Q .non H', rt := Q } := by
  cases y with
  | out o =>
    obtain ⟨q, h3, rfl⟩ := Option.map_eq_some_iff.mp h2
    exact post_fin wd h3 p
  | ex nm d ρ' cs1 =>
    cases h2
    intro cls dd σ' O' H' ex c en' w' hx
    have eO : O'.take cs.length = O := ex.take_eq wd.len
    have w2 := w'.take cs.length
    rw [eO] at w2
    exact p cls dd H' c w2 (hx.mono fun a o q => by
      obtain ⟨m, e⟩ := hd_some q
      exact hd_of (fun z => m (live_take (n := cs.length) (by rw [eO]; exact z))) e)
section
end
/-- the def at f does as m says, an exception told to the caller -/
structure FnX (P : Program) (w : World) (K : PySem.W.Frag) (mg : Str → Option Value) (base : Heap) (k : Nat) (f : Addr) (fd : FuncData) (ps : List Str) (m : MFX) : Prop where
  run : ∀ (A : Around) (outer : List Env) (s : Shared) (H : Hp) (args : Args) (us : List Value) (vs : List V) (Q : VK) (E : L2.XK) (rs : List Rv) (O : List (Option Addr)) (cs : Cs) (x : RX),
    A.guards = some [] → base.NoDigits → Room k A → Env0 P w K mg base A outer s H → BindsTo s fd args (ps.zip us) → Vals vs us → vs.length = ps.length → Wd K O cs H → ArRs K O H rs vs → m rs cs = some x → PostR K O H x Q E →
    codeAny (model P w) A (.call (.ref f) args) (CR (L2.CX P w) outer P w H s Q E) s
abbrev cxX (P : Program) (w : World) (K : PySem.W.Frag) (mg : Str → Option Value) (base : Heap) (N : List Str) (qual : Str) (scope : Scope) (f : Addr) (cdv : Value) (A : Around) (outer : List Env) (s : Shared) (H : Hp) (E : L2.XK) : Cx :=
  cxOf (L2.CX P w) P w K mg base N qual scope f cdv A outer s H E
theorem fnX_of {P : Program} {w : World} {K : PySem.W.Frag} {mg : Str → Option Value} {base : Heap} {k : Nat} {f : Addr} {x qual : Str} {params : Arguments} {body : List Stmt} {scope : Scope} {dvs : List V} {kws : List (Str × V)} {fd : FuncData} {N ps : List Str} {b : MX}
    (F : FunD K x qual params body scope dvs kws f fd) (S : FnScope N ps scope)
    (hb : ∀ (cdv : Value) (A : Around) (outer : List Env) (s : Shared) (H : Hp) (E : L2.XK), Room k (A.deeper (envOfC qual scope s.heap.objs.size f cdv)) → Rm (cxX P w K mg base N qual scope f cdv A outer s H E).nox → (cxX P w K mg base N qual scope f cdv A outer s H E).calm = true → XSX (cxX P w K mg base N qual scope f cdv A outer s H E) b body) :
    FnX P w K mg base (k + 1) f fd ps (fnX N.length b) := by
  obtain ⟨oc, od, dV, kV, doc, pm, an, cdv, ct, osl, rfl, lk, hcd, _, _⟩ := F.ex
  refine ⟨fun A outer s H args us vs Q E rs O cs x hg hnd hr e0 hbd rv hl wd ar em p => ?_⟩
  have KX : K.In s.heap := e0.mod.kin.keeps fun a o e => (e0.bs a o e).1
  have lim : s.heap.NoLimit := e0.mod.nolimit.keeps fun a o e => (e0.bs a o e).1
  refine codeAny_call_function hr.depth (KX _ _ lk) rfl S.co S.gen rfl (PySem.W.codeRec_of KX hcd) (hbd _ _ _ _ ?_)
  refine wpAny_newFunctionEnv_cells S.kind (fun y hy => ?_) fun env he s1 xx => ?_
  · rcases S.par y.1 (List.of_mem_zip hy).1 with q | q
    · exact .inl q
    · exact .inr ⟨q, PySem.W.cellsFrom_some _ _ _ (.inl q)⟩
  · subst he
    refine ⟨lim.keeps xx.toInCall.keep, codeAny_func ?_⟩
    have I := inv_start (CX := L2.CX P w) (E := E) (qual := qual) (f := f) (cd := cdv) (outer := outer) S hr.hd e0 hl rv xx
    have hr' := hr.deeper (envOfC qual scope s.heap.objs.size f cdv)
    have rm : Rm (cxX P w K mg base N qual scope f cdv A outer s H E).nox := ⟨hr.hd, by
      have := hr'.un
      show (A.deeper (envOfC qual scope s.heap.objs.size f cdv)).units + 200 < cLine
      omega, by show A.guards = some []; exact hg, rfl, hnd⟩
    have hbody := hb cdv A outer s H E hr' rm rfl _ (takes_of (E := E) rfl rfl rfl rfl)
    obtain ⟨o, h1, h2⟩ := Option.bind_eq_some_iff.mp em
    refine wpAny_mono (hbody.run [] s1 (L2.start N vs) H { nx := fun _ H' => Q .non H', rt := Q } I ⟨cs.length, _, O, cs, o, h1, by rw [wd.len]; exact Nat.le_refl _, start_env ar, wd, post_finX wd h2 p⟩) (fun fl s' hs => ?_) fun e s' hs => hs
    cases fl with
    | ret u =>
      obtain ⟨v, σ', H', J, rv', q⟩ := hs
      exact ⟨v, H', J.os, J.bare, J.base, J.hok, rv', q⟩
    | next =>
      obtain ⟨σ', H', J, q⟩ := hs
      exact ⟨V.non, H', J.os, J.bare, J.base, J.hok, rfl, q⟩
    | brk =>
      obtain ⟨_, _, _, q⟩ := hs
      exact q.elim
    | cont =>
      obtain ⟨_, _, _, q⟩ := hs
      exact q.elim
section
end
end DL
/-! EX5: calls that may raise. -/
namespace DL
open PySem PySem.Spec PyProof.Rows L2
abbrev MR := Rho → Cs → Option RX
def tXR (K : PySem.W.Frag) (f : MR) (W : WX) : TE := fun σ H Q => ∃ ρ O cs x, f ρ cs = some x ∧ EnvOk K O H ρ σ ∧ Wd K O cs H ∧ PostR K O H x Q fun cls dd H' => W cls dd σ H'
/-- an expression that may raise -/
def XR (X : Cx) (f : MR) (e : Expr) : Prop := ∀ W, Takes X W → PE X e (tXR X.K f W)
section
variable {X : Cx}
theorem PostR.step {K : PySem.W.Frag} {O : List (Option Addr)} {H H1 : Hp} {cs1 : Cs} {x : RX} {Q : VK} {E : L2.XK} (h : PostR K O H x Q E) (c : Ch O H H1) (w1 : Wd K O cs1 H1) : PostR K O H1 x Q E := by
  cases x with
  | ex nm d cs' => exact fun cls dd H' c' w' e => h cls dd H' (c.trans c') w' e
  | ok r cs' => exact PostX.step h c w1
theorem PA.nox' {es : List Expr} {t : TA} (h : PA X.nox es t) : PA X es t := ⟨fun pos pins s σ H Q I hw =>
  wpAny_mono (h.run pos pins s σ H Q (I.wish _) hw) (fun _ _ ⟨vs, H', I', r, q⟩ => ⟨vs, H', I'.unwish, r, q⟩) fun _ _ z => False.elim z⟩
theorem callX_end {k : Nat} {f : Addr} {fd : FuncData} {ps : List Str} {m : MFX} {W : WX} {pins : List (Addr × Obj)} {σ : L2.St} {H : Hp} {s : Shared} {Q : VK} {us : List Value} {kw : List (Str × Value)} {us2 : List Value} {vs : List V} {rs : List Rv} {O : List (Option Addr)} {cs : Cs} {x : RX} (tk : Takes X W) (F : FnX X.prog X.w X.K X.mg X.base k f fd ps m) (hr : Room k X.A) (hg : X.A.guards = some []) (hnd : X.base.NoDigits)
    (I : Inv X pins σ H s) (hb : BindsTo s fd ⟨us, kw⟩ (ps.zip us2)) (rv : Vals vs us2) (hl : rs.length = ps.length) (wd : Wd X.K O cs H) (ar : ArRs X.K O H rs vs) (em : m rs cs = some x) (p : PostR X.K O H x Q fun cls dd H' => W cls dd σ H') :
    wpAny (model X.prog X.w) X.A (call (.ref f) us kw) (EP X pins σ Q) X.xe s := by
  refine wpAny_call (codeAny_mono (F.run X.A X.stack s H ⟨us, kw⟩ us2 vs Q (fun cls dd H' => W cls dd σ H') rs O cs x hg hnd hr I.env0 hb rv (by rw [← ar.length]; exact hl) wd ar em p) fun r s' hq => ?_)
  cases r with
  | error e => exact tk _ _ (XE.of_call I (fun _ _ _ h => h) hq)
  | ok fl => cases fl with
    | ret u => exact I.after hq
    | next => exact hq.elim
    | brk => exact hq.elim
    | cont => exact hq.elim
def mCallX (n : Nat) (m : MFX) (fa : MA) : MR := fun ρ cs => (fa ρ cs).bind fun p => if p.1.length = n then m p.1 p.2 else none
theorem xr_call {k : Nat} {f : Addr} {fd : FuncData} {ps : List Str} {m : MFX} {x : Str} {e : Expr} {es : List Expr} {fa : MA} {p pos : Pos} (F : FnX X.prog X.w X.K X.mg X.base k f fd ps m) (hr : Room k X.A) (rm : Rm X.nox) (hg : Gl X x) (hm : X.mg x = some (.ref f)) (hk : PySem.W.keepIn X.K (.ref f) = true)
    (hb : Binds X.K fd ps []) (ha : XA X.nox fa (e :: es)) (hdb : (x == ("__debug__" : Str)) = false := by decide)
    (he : starEach (e :: es) X.env = (false, eval e X.env) :: starEach es X.env := by rfl) (hpl : (backTo pos (starEach es X.env)).any (·.1) = false := by rfl) : XR X (mCallX ps.length m fa) (.Call (.Name x p) (e :: es) [] pos) := fun W tk => by
  refine ⟨fun pins s σ H Q I ⟨ρ, O, cs, y, e0, en, w, pq⟩ => ?_⟩
  obtain ⟨⟨rs, cs1⟩, h1, h2⟩ := Option.bind_eq_some_iff.mp e0
  obtain ⟨hl, em⟩ := ite_none h2
  refine wpAny_Call_Name_kw (ld_glob I hg hm ?_ hdb)
  have ha' : PA X (e :: es) (tXA X.K fa) := PA.nox' ha
  have hrun := ha'.run pos pins s σ H (ArgP X.K O H cs1 rs) I ⟨ρ, O, cs, rs, cs1, h1, en, w, fun vs H' c w' ra => ⟨c, w', ra⟩⟩
  refine PySem.W.callWith_K (h₀ := X.base) I.ok.mod.kin hk (thn hrun fun us s1 hus => ?_) he hpl
  obtain ⟨vs, H1, I1, rv, c1, w1, ra⟩ := hus
  refine ⟨I1.kIn, ?_⟩
  have hb' := hb s1 us I1.kIn (by rw [List.append_nil, ← rv.length, ← ra.length]; exact hl)
  rw [List.append_nil] at hb'
  exact callX_end tk F hr rm.gd rm.nd I1 hb' rv hl w1 ra em (pq.step c1 w1)
/-- the call alone -/
def xExpr (f : MR) : MX := fun _ ρ cs => (f ρ cs).map fun x => match x with
  | .ex nm d cs' => .ex nm d ρ cs'
  | .ok _ cs' => .out (.nx ρ cs')
theorem x1_expr {e : Expr} {f : MR} {pos : Pos} (he : XR X f e) (hs : swapsWith e none pos.line X.env = pure false := by rfl) : X1 X (xExpr f) (.Expr e pos) := fun W tk =>
  ps_weak (ps_expr (he W tk) hs) fun D σ H ⟨n0, ρ, O, cs, y, e0, hn, en, w, p⟩ => by
    obtain ⟨x, h1, rfl⟩ := Option.map_eq_some_iff.mp e0
    refine ⟨ρ, O, cs, x, h1, en, w, ?_⟩
    cases x with
    | ex nm d cs' => exact fun cls dd H' c w' hx => p cls dd σ O H' .refl c (en.ch c) w' hx
    | ok r cs' => exact fun v H' c w' rv => p σ O H' .refl c (en.ch c) w'
/-- return the call -/
def xRet (f : MR) : MX := fun n0 ρ cs => (f ρ cs).bind fun x => match x with
  | .ex nm d cs' => some (.ex nm d ρ cs')
  | .ok r cs' => (sRet (fun _ _ => some (r, cs')) n0 ρ cs').map .out
theorem x1_ret {e : Expr} {f : MR} {pos : Pos} (he : XR X f e) : X1 X (xRet f) (.Return (some e) pos) := fun W tk =>
  ps_weak (ps_ret (he W tk)) fun D σ H ⟨n0, ρ, O, cs, y, e0, hn, en, w, p⟩ => by
    obtain ⟨x, h1, h2⟩ := Option.bind_eq_some_iff.mp e0
    refine ⟨ρ, O, cs, x, h1, en, w, ?_⟩
    cases x with
    | ex nm d cs' =>
      cases h2
      exact fun cls dd H' c w' hx => p cls dd σ O H' .refl c (en.ch c) w' hx
    | ok r cs1 =>
      obtain ⟨o, h3, rfl⟩ := Option.map_eq_some_iff.mp h2
      intro v H' c w' rv
      cases r with
      | dat d => cases h3; exact p v O H' .refl c w' rv
      | exn nm d => cases h3
      | gr d k n => cases h3
      | ft d =>
        cases h3
        refine p v O H' .refl c w' ?_
        obtain ⟨z1, as, z2, z3, z4, z5⟩ := rv
        refine ⟨z1, as, z2, z3, fun a ha => ⟨⟨fun _ => (z4 a ha).1, fun i hi z => ?_⟩, (z4 a ha).2⟩, z5⟩
        exact (z4 a ha).2 (mem_live.mpr ⟨i, z⟩)
      | own k =>
        obtain ⟨_, h4⟩ := ite_some (show (if n0 ≤ k then some (Out.rt (.own k) cs1) else none) = some o from h3)
        subst h4
        exact p v O H' .refl c w' rv
      | fr l =>
        cases h3
        obtain ⟨q, rfl, hq, w2⟩ := rv
        refine p _ (O ++ [some q]) H' (ext_new (K := X.K) hn hq) c w2 ⟨q, rfl, ?_⟩
        show (O ++ [some q])[cs1.length]? = some (some q)
        rw [w'.len]; simp
/-- name = the call: data -/
def xSet (i : Nat) (f : MR) : MX := fun _ ρ cs => (f ρ cs).bind fun x => match x with
  | .ex nm d cs' => some (.ex nm d ρ cs')
  | .ok r cs' => match deg r with
    | .dat d => some (.out (.nx (ρ.set i (some (.dat d))) cs'))
    | _ => none
theorem x1_set {i : Nat} {x : Str} {e : Expr} {f : MR} {pos pos' : Pos} (hN : X.N.Nodup) (hi : X.N[i]? = some x) (hx : Loc X.env.scope x) (he : XR X f e) (hs : swapsWith e (some (.Name x pos')) pos.line X.env = pure false := by rfl)
    (hf : X.fn x = true ∨ X.env.scope.names.lookup x = some .local := by first | exact .inl rfl | exact .inr rfl) : X1 X (xSet i f) (.Assign [.Name x pos'] e pos) := fun W tk =>
  ps_weak (ps_set hN hi hx (he W tk) hs hf) fun D σ H ⟨n0, ρ, O, cs, y, e0, hn, en, w, p⟩ => by
    obtain ⟨z, h1, h2⟩ := Option.bind_eq_some_iff.mp e0
    refine ⟨ρ, O, cs, z, h1, en, w, ?_⟩
    cases z with
    | ex nm d cs' =>
      cases h2
      exact fun cls dd H' c w' hx => p cls dd σ O H' .refl c (en.ch c) w' hx
    | ok r cs1 =>
      intro v H' c w' rv
      have rr := rv.deg
      dsimp only at h2
      split at h2
      · rename_i d hd'
        cases h2
        rw [hd'] at rr
        exact p _ O H' .refl c ((en.ch c).set i rr) w'
      · cases h2
/-- the plain contract: where nothing is raised -/
def okM (m : MFX) : MF := fun rs cs => (m rs cs).bind fun x => match x with
  | .ok r cs' => some (r, cs')
  | .ex _ _ _ => none
theorem FnX.plain {P : Program} {w : World} {K : PySem.W.Frag} {mg : Str → Option Value} {base : Heap} {k : Nat} {f : Addr} {fd : FuncData} {ps : List Str} {m : MFX} (F : FnX P w K mg base k f fd ps m) : FnD P w K mg base k f fd ps (okM m) :=
  ⟨fun A outer s H args us vs Q rs O cs r cs' hg hnd hr e0 hb rv hl wd ar em p => by
    obtain ⟨x, h1, h2⟩ := Option.bind_eq_some_iff.mp em
    cases x with
    | ex nm d cs1 => cases h2
    | ok r1 cs1 =>
      cases h2
      refine codeAny_mono (F.run A outer s H args us vs Q (fun _ _ _ => False) rs O cs _ hg hnd hr e0 hb rv hl wd ar h1 p) fun res s' hq => ?_
      cases res with
      | error e =>
        obtain ⟨_, _, _, _, _, _, _, _, _, _, _, _, z⟩ := hq
        exact z.elim
      | ok fl =>
        cases fl with
        | ret u => exact hq
        | next => exact hq.elim
        | brk => exact hq.elim
        | cont => exact hq.elim⟩
theorem FnX.mono {P : Program} {w : World} {K : PySem.W.Frag} {mg : Str → Option Value} {base : Heap} {j k : Nat} {f : Addr} {fd : FuncData} {ps : List Str} {m : MFX} (F : FnX P w K mg base j f fd ps m) (h : j ≤ k) : FnX P w K mg base k f fd ps m :=
  ⟨fun A outer s H args us vs Q E rs O cs x hg hnd hr => F.run A outer s H args us vs Q E rs O cs x hg hnd (hr.mono h)⟩
/-- a def that may raise, ready to be called -/
structure CalX (P : Program) (w : World) (K : PySem.W.Frag) (mg : Str → Option Value) (base : Heap) (k : Nat) (x : Str) (st : Stmt) (ps : List Str) (m : MFX) : Prop where
  ex : ∃ (f : Addr) (fd : FuncData), FunD K x x (defArgs st) (defBody st) (defScope st) [] [] f fd ∧ FnX P w K mg base k f fd ps m ∧ mg x = some (.ref f) ∧ Binds K fd ps []
theorem CalX.plain {P : Program} {w : World} {K : PySem.W.Frag} {mg : Str → Option Value} {base : Heap} {k : Nat} {x : Str} {st : Stmt} {ps : List Str} {m : MFX} (C : CalX P w K mg base k x st ps m) : Cal P w K mg base k x st ps (okM m) :=
  let ⟨f, fd, F, G, hm, hb⟩ := C.ex
  ⟨⟨f, fd, F, G.plain, hm, hb⟩⟩
theorem wr_call {k j n : Nat} {x : Str} {st : Stmt} {ps : List Str} {m : MFX} {e : Expr} {es : List Expr} {fa : MA} {p pos : Pos} (C : CalX X.prog X.w X.K X.mg X.base j x st ps m) (hr : Room k X.A) (rm : Rm X.nox) (ha : XA X.nox fa (e :: es)) (hj : j ≤ k := by decide) (hg : Gl X x := by rfl) (hdb : (x == ("__debug__" : Str)) = false := by decide)
    (he : starEach (e :: es) X.env = (false, eval e X.env) :: starEach es X.env := by rfl) (hpl : (backTo pos (starEach es X.env)).any (·.1) = false := by rfl) (hn : ps.length = n := by rfl) : XR X (mCallX n m fa) (.Call (.Name x p) (e :: es) [] pos) := by
  subst hn
  obtain ⟨f, fd, F, G, hm, hb⟩ := C.ex
  exact xr_call G (hr.mono hj) rm hg hm F.kp hb ha hdb he hpl
theorem calX_of {P : Program} {w : World} {K : PySem.W.Frag} {mg : Str → Option Value} {base : Heap} {k : Nat} {x : Str} {st : Stmt} {ps : List Str} {N : List Str} {b : MX} (F : ∃ f fd, FunD K x x (defArgs st) (defBody st) (defScope st) [] [] f fd ∧ mg x = some (.ref f)) (S : FnScope N ps (defScope st))
    (hb : ∀ (kV doc pm : Value) (an : Option Addr) (cdv ct : Value) (us : List Value), us.length = ps.length → bindArgs (PySem.W.fnOf x x (defArgs st) (defBody st) (defScope st) .none kV doc pm an cdv ct) ⟨us, []⟩ = pure (ps.zip us))
    (h : ∀ (f : Addr) (cdv : Value) (A : Around) (outer : List Env) (s : Shared) (H : Hp) (E : L2.XK), Room k (A.deeper (envOfC x (defScope st) s.heap.objs.size f cdv)) → Rm (cxX P w K mg base N x (defScope st) f cdv A outer s H E).nox → (cxX P w K mg base N x (defScope st) f cdv A outer s H E).calm = true → XSX (cxX P w K mg base N x (defScope st) f cdv A outer s H E) b (defBody st)) :
    CalX P w K mg base (k + 1) x st ps (fnX N.length b) := by
  obtain ⟨f, fd, F, hm⟩ := F
  exact ⟨f, fd, F, fnX_of F S fun cdv A outer s H E hr rm hc => h f cdv A outer s H E hr rm hc, hm, F.bindsN hb⟩
end
end DL
/-! EX6: try, for over what may raise, either of two calls. -/
namespace DL
open PySem PySem.Spec PyProof.Rows L2
section
variable {X : Cx}
theorem EnvOk.unset {K : PySem.W.Frag} {O : List (Option Addr)} {H : Hp} {ρ : Rho} {σ : L2.St} (e : EnvOk K O H ρ σ) (i : Nat) : EnvOk K O H (ρ.set i none) (σ.set i none) := e.wipe [i]
/-- try: body; except nm' as (slot i): (slot j) = (slot i) -/
def sTry (nm' : Str) (i j : Nat) (f : MX) : MS := fun n0 ρ cs => (f n0 ρ cs).bind fun x => match x with
  | .out o => some o
  | .ex nm d ρ' cs' => if (decide (i < ρ'.length) && subN nm nm') = true then some (.nx ((ρ'.set j (some (.exn nm d))).set i none) cs') else none
theorem xs_try {x n m : Str} {CC : Addr} {i j : Nat} {body : List Stmt} {f : MX} {np p1 p2 p3 pos pos' : Pos} (hc : ClsOf X.K X.mg x CC) (hbe : PySem.W.subIn X.K (.ref CC) (.type "BaseException") = some true)
    (hN : X.N.Nodup) (hb : ∀ (pn : List (Addr × Obj)) (xe : Value → Shared → Prop), PassesOwn (model X.prog X.w) X.A X.env xe → XSX (X.tr pn xe) f body)
    (hi : X.N[i]? = some n := by rfl) (hj : X.N[j]? = some m := by rfl) (hij : (i == j) = false := by decide) (hln : X.env.kindOf n = some .local := by rfl) (hloc : Loc X.env.scope m := by first | exact Or.inl rfl | exact Or.inr rfl)
    (hg : Gl X x := by rfl) (hdb : (x == ("__debug__" : Str)) = false := by decide) (hv : Vis X.env.scope n := by first | exact Or.inl rfl | exact Or.inr (Or.inl rfl) | exact Or.inr (Or.inr rfl)) (hd : (n == ("__debug__" : Str)) = false := by decide) (hcd : (n == ("__classdict__" : Str)) = false := by decide)
    (hs : swapsWith (.Name n p2) (some (.Name m p1)) p3.line X.env = pure false := by rfl) (hfn : X.fn m = true ∨ X.env.scope.names.lookup m = some .local := by first | exact .inl rfl | exact .inr rfl)
    (hex : X.ex = [] := by rfl) (hst : X.stack = X.env :: X.outer := by rfl) (hf : X.env.frame = some X.env.locals := by rfl) :
    XS X (sTry x i j f) (.Try body [.ExceptHandler (some (.Name x np)) (some n) [.Assign [.Name m p1] (.Name n p2) p3] pos'] [] [] pos) := by
  have hij' : i ≠ j := by simpa using hij
  refine ps_weak (ps_try_keep (Wout := fun _ _ _ _ => False) (i := i) (c := .ref CC) (tb := fun W => tSX X.K f W) (ts := fun a cls d D σ H => ∃ v, σ[i]? = some (some v) ∧ D.nx (σ.set j (some v)) H) hex hst hf hN hi hln ⟨hg, hdb, .inl hc.g⟩ (fun u s' ⟨_, _, _, _, _, _, _, _, _, _, _, _, _, _, _, _, z⟩ => z.elim)
    (fun W pn xe tk po => hb pn xe po W tk) (fun a oe cls d pn hz hd' => pss_weak (pss_one (ps_set (X := X.suite a ((a, oe) :: pn)) hN hj hloc (pe_var hi hv hd hcd) hs hfn)) fun D σ H h => h)) ?_
  intro D σ H ⟨n0, ρ, O, cs, out, e0, hn, en, w, p⟩
  obtain ⟨x, e1, e2⟩ := Option.bind_eq_some_iff.mp e0
  refine ⟨n0, ρ, O, cs, x, e1, hn, en, w, ?_⟩
  cases x with
  | out o =>
    cases e2
    exact p
  | ex nm d ρ' cs' =>
    obtain ⟨hsub', rfl⟩ := ite_some (show (if (decide (i < ρ'.length) && subN nm _) = true then some (Out.nx ((ρ'.set j (some (.exn nm d))).set i none) cs') else none) = some out from e2)
    rw [Bool.and_eq_true, decide_eq_true_iff] at hsub'
    obtain ⟨hlt, hsub⟩ := hsub'
    rintro cls dd σ' O' H' ex c en' w' ⟨C, a0, y, rfl, rfl, kd, hx, ry⟩
    refine ⟨true, by rw [kd.exm _ hc.mem hbe, hsub], fun _ a na => ?_, fun z => nomatch z⟩
    have hiN : i < σ'.length := by
      rw [← en'.len]; exact hlt
    refine ⟨.ref a, by rw [List.getElem?_set_self hiN], ?_⟩
    have c2 : Ch O' H' (upd H' a (exv a (.ref C) (some a0))) := ch_new na
    have w2 : Wd X.K O' cs' (upd H' a (exv a (.ref C) (some a0))) := w'.new na
    refine p _ O' _ ex (c.ext ex c2) ?_ w2
    have ar : ArR X.K O' (.exn nm d) (.ref a) (upd H' a (exv a (.ref C) (some a0))) := by
      refine ⟨a, C, a0, y, rfl, kd, hd_of (w'.fresh na) upd_same, c2.data _ _ hx, ry.mono c2.data⟩
    have e3 := (((en'.unset i).ch c2).set j ar).unset i
    have q1 : ((ρ'.set i none).set j (some (Rv.exn nm d))).set i none = (ρ'.set j (some (.exn nm d))).set i none := by
      rw [List.set_comm _ _ hij', List.set_set]
    have q2 : ((σ'.set i none).set j (some (V.ref a))).set i none = ((σ'.set i (some (V.ref a))).set j (some (.ref a))).set i none := by
      rw [List.set_comm _ _ hij', List.set_set, List.set_comm (some (V.ref a)) _ hij', List.set_set]
    rw [q1, q2] at e3
    exact e3
/-! ### for over what may raise -/
def loopX (g : MG) (b : MX) (n0 : Nat) : List D → Rho → Cs → Option XOu
  | [], ρ, cs => some (.out (.nx ρ cs))
  | d :: ds, ρ, cs => (g d ρ).bind fun ρ1 => (b n0 ρ1 cs).bind fun o => match o with
    | .out (.nx ρ2 cs2) => loopX g b n0 ds ρ2 cs2
    | .out (.ct ρ2 cs2) => loopX g b n0 ds ρ2 cs2
    | .out (.bk ρ2 cs2) => some (.out (.nx ρ2 cs2))
    | .out (.rt r cs2) => some (.out (.rt r cs2))
    | .ex nm d ρ2 cs2 => some (.ex nm d ρ2 cs2)
def xFor (f : MI) (g : MG) (b : MX) : MX := fun n0 ρ cs => (f ρ cs).bind fun p => loopX g b n0 p.1 ρ p.2
theorem x1_for {tg iter : Expr} {body : List Stmt} {f : MI} {g : MG} {b : MX} {pos : Pos} {ws : List Nat} (hp : PassesOwn (model X.prog X.w) X.A X.env X.xe) (hc : X.calm = true) (hi : XI X f tg iter) (hg : XG X ws g tg) (hb : XSX X b body)
    (hs : ∀ x, foldedSetIterable iter X.env x = pure x := by intro _; rfl) : X1 X (xFor f g b) (.For tg iter body [] pos) := fun W tk =>
  ps_weak (ps_for hp hc hi hg (hb W tk) hs) fun D σ H ⟨n0, ρ, O, cs, out, e0, hn, en, w, p⟩ => by
    obtain ⟨⟨ds, cs1⟩, g1, g2⟩ := Option.bind_eq_some_iff.mp e0
    clear e0
    refine ⟨ρ, O, cs, ds, cs1, g1, en, w, fun J H1 c1 w1 wk => ?_⟩
    have p1 := p.step w w1 .refl c1
    refine ⟨fun i m σ' H' => m = ds.length - i ∧ i ≤ ds.length ∧ ∃ ρ' O' cs', loopX g b n0 (ds.drop i) ρ' cs' = some out ∧ EnvOk X.K O' H' ρ' σ' ∧ Wd X.K O' cs' H' ∧ Ext n0 O O' H1 ∧ Ch O H1 H', ⟨ds.length, by simp, Nat.zero_le _, ρ, O, cs1, g2, en.ch c1, w1, .refl, .refl⟩, ?_⟩
    rintro i m σ' H' ⟨rfl, hi', ρ', O', cs', e1, en', w', ex', ch'⟩
    have sb : Sub O H1 O' H' := Sub.of ex' ch'
    have hn' : n0 ≤ O'.length := ex'.len hn
    have p' : PostX' X.K n0 O' H' out W D := p1.step w1 w' ex' ch'
    by_cases hlt : i < ds.length
    · have hd' : ds[i]? = some ds[i] := List.getElem?_eq_getElem hlt
      rw [List.drop_eq_getElem_cons hlt] at e1
      obtain ⟨ρ1, h1, e2⟩ := Option.bind_eq_some_iff.mp e1
      obtain ⟨o, h3, e3⟩ := Option.bind_eq_some_iff.mp e2
      clear e1 e2
      obtain ⟨go, yl⟩ := (wk i O' cs' H' sb w').2 _ hd'
      refine .inr ⟨go, fun σ2 H2 => i + 1 ≤ ds.length ∧ ∃ ρ2 O2 cs2, loopX g b n0 (ds.drop (i + 1)) ρ2 cs2 = some out ∧ EnvOk X.K O2 H2 ρ2 σ2 ∧ Wd X.K O2 cs2 H2 ∧ Ext n0 O O2 H1 ∧ Ch O H1 H2, fun σ2 H2 h2 => ⟨ds.length - (i + 1), by omega, rfl, h2⟩, fun x H3 hy => ?_⟩
      obtain ⟨c3, w3, r3⟩ := yl x H3 hy
      refine ⟨ρ', O', cs', ds[i], ρ1, h1, r3, en'.ch c3, w3, fun σ4 en4 _ => ?_⟩
      refine ⟨n0, ρ1, O', cs', o, h3, hn', en4, w3, ?_⟩
      have again : ∀ ρ2 cs2, loopX g b n0 (ds.drop (i + 1)) ρ2 cs2 = some out → ∀ σ5 O5 H5, Ext n0 O' O5 H3 → Ch O' H3 H5 → EnvOk X.K O5 H5 ρ2 σ5 → Wd X.K O5 cs2 H5 →
          i + 1 ≤ ds.length ∧ ∃ ρ2 O2 cs2, loopX g b n0 (ds.drop (i + 1)) ρ2 cs2 = some out ∧ EnvOk X.K O2 H5 ρ2 σ5 ∧ Wd X.K O2 cs2 H5 ∧ Ext n0 O O2 H1 ∧ Ch O H1 H5 := fun ρ2 cs2 hl σ5 O5 H5 e5 c5 en5 w5 => by
        have ex3 : Ext n0 O O' H1 := ex'
        have ch3 : Ch O H1 H3 := ch'.ext ex' c3
        exact ⟨hlt, ρ2, O5, cs2, hl, en5, w5, ex3.trans w1 w3 ch3 e5, ch3.ext ex3 c5⟩
      have p3 : PostX' X.K n0 O' H3 out W D := p'.step w' w3 .refl c3
      cases o with
      | ex nm d ρ2 cs2 => cases e3; exact p3
      | out o =>
        cases o with
        | nx ρ2 cs2 => exact again ρ2 cs2 e3
        | ct ρ2 cs2 => exact again ρ2 cs2 e3
        | bk ρ2 cs2 => cases e3; exact p3
        | rt r cs2 => cases e3; exact p3
    · have ei : i = ds.length := by omega
      subst ei
      rw [List.drop_length] at e1
      cases e1
      exact .inl ⟨(wk ds.length O' cs' H' sb w').1 (Nat.le_refl _), p' _ O' H' .refl .refl en' w'⟩
/-! ### one of two calls -/
def rIf (c : MT) (f g : MR) : MR := fun ρ cs => (c ρ cs).bind fun p => if p.1 = true then f ρ p.2 else g ρ p.2
theorem xr_if {c a b : Expr} {t : MT} {f g : MR} {pos : Pos} (hc : XT X.nox t c) (ha : XR X f a) (hb : XR X g b) : XR X (rIf t f g) (.IfExp c a b pos) := fun W tk => by
  have hc' : PT X c (tXT X.K t) := PT.nox hc
  refine pe_weak (pe_ifExp hc' (ha W tk) (hb W tk)) fun σ H Q ⟨ρ, O, cs, x, e0, en, w, p⟩ => ?_
  obtain ⟨⟨k, cs1⟩, h1, h2⟩ := Option.bind_eq_some_iff.mp e0
  refine ⟨ρ, O, cs, k, cs1, h1, en, w, fun H' c' w' => ?_⟩
  have p' := p.step c' w'
  cases k with
  | true => exact ⟨ρ, O, cs1, x, h2, en.ch c', w', p'⟩
  | false => exact ⟨ρ, O, cs1, x, h2, en.ch c', w', p'⟩
/-- a plain expression beside one that raises -/
def rPl (f : ME) : MR := fun ρ cs => (f ρ cs).map fun p => .ok p.1 p.2
theorem xr_pl {e : Expr} {f : ME} (h : XE X.nox f e) : XR X (rPl f) e := fun W tk => by
  have h' : PE X e (tX X.K f) := PE.nox h
  refine pe_weak h' fun σ H Q ⟨ρ, O, cs, x, e0, en, w, p⟩ => ?_
  obtain ⟨⟨r, cs1⟩, h1, rfl⟩ := Option.map_eq_some_iff.mp e0
  exact ⟨ρ, O, cs, r, cs1, h1, en, w, p⟩
end
end DL
/-! EV2: running mirrors that may raise. -/
namespace DL
open PySem PySem.Spec PyProof.Rows L2
section
variable {fa fb fe : ME} {ρ : Rho} {cs : Cs} {Q : Rv → Cs → Prop} {QS : Out → Prop} {QX : XOu → Prop} {QR : RX → Prop} {n0 : Nat} {f g : MX} {h : MR}
def Ex (f : MX) (n0 : Nat) (ρ : Rho) (cs : Cs) (Q : XOu → Prop) : Prop := wpd (f n0 ρ cs) Q
def Er (f : MR) (ρ : Rho) (cs : Cs) (Q : RX → Prop) : Prop := wpd (f ρ cs) Q
def Emx (m : MFX) (rs : List Rv) (cs : Cs) (Q : RX → Prop) : Prop := wpd (m rs cs) Q
@[simp] theorem deg_ft {d : D} : deg (.ft d) = .dat d := rfl
@[simp] theorem datOf_ft {d : D} {Q : D → Prop} : DatOf (.ft d) Q ↔ Q d := Iff.rfl
@[simp] theorem deg_exn {nm : Str} {d : D} : deg (.exn nm d) = .exn nm d := rfl
@[simp] theorem ex_xTail {b : MS} : Ex (xTail b) n0 ρ cs QX ↔ Es b n0 ρ cs fun o => QX (.out o) := wpd_map
@[simp] theorem ex_xOut {b : MS} : Ex (xOut b) n0 ρ cs QX ↔ Es b n0 ρ cs fun o => QX (.out o) := wpd_map
@[simp] theorem ex_xNil : Ex xNil n0 ρ cs QX ↔ QX (.out (.nx ρ cs)) := Iff.rfl
def NxX (n0 : Nat) (g : MX) (Q : XOu → Prop) : Out → Prop
  | .nx ρ cs => Ex g n0 ρ cs Q
  | o => Q (.out o)
@[simp] theorem nxx_nx : NxX n0 g QX (.nx ρ cs) ↔ Ex g n0 ρ cs QX := Iff.rfl
@[simp] theorem nxx_rt {r : Rv} : NxX n0 g QX (.rt r cs) ↔ QX (.out (.rt r cs)) := Iff.rfl
@[simp] theorem nxx_bk : NxX n0 g QX (.bk ρ cs) ↔ QX (.out (.bk ρ cs)) := Iff.rfl
@[simp] theorem nxx_ct : NxX n0 g QX (.ct ρ cs) ↔ QX (.out (.ct ρ cs)) := Iff.rfl
@[simp] theorem ex_xSeq {b : MS} : Ex (xSeq b g) n0 ρ cs QX ↔ Es b n0 ρ cs (NxX n0 g QX) := by
  unfold Ex Es xSeq
  rw [wpd_bind]
  refine iff_of_eq (congrArg _ (funext fun o => propext ?_))
  cases o <;> exact Iff.rfl
def NxQ (n0 : Nat) (g : MX) (Q : XOu → Prop) : XOu → Prop
  | .out (.nx ρ cs) => Ex g n0 ρ cs Q
  | x => Q x
@[simp] theorem nxq_nx : NxQ n0 g QX (.out (.nx ρ cs)) ↔ Ex g n0 ρ cs QX := Iff.rfl
@[simp] theorem nxq_rt {r : Rv} : NxQ n0 g QX (.out (.rt r cs)) ↔ QX (.out (.rt r cs)) := Iff.rfl
@[simp] theorem nxq_bk : NxQ n0 g QX (.out (.bk ρ cs)) ↔ QX (.out (.bk ρ cs)) := Iff.rfl
@[simp] theorem nxq_ct : NxQ n0 g QX (.out (.ct ρ cs)) ↔ QX (.out (.ct ρ cs)) := Iff.rfl
@[simp] theorem nxq_ex {nm : Str} {d : D} : NxQ n0 g QX (.ex nm d ρ cs) ↔ QX (.ex nm d ρ cs) := Iff.rfl
@[simp] theorem ex_xSq : Ex (xSq f g) n0 ρ cs QX ↔ Ex f n0 ρ cs (NxQ n0 g QX) := by
  unfold Ex xSq
  rw [wpd_bind]
  refine iff_of_eq (congrArg _ (funext fun x => propext ?_))
  cases x with
  | ex nm d ρ cs => exact Iff.rfl
  | out o => cases o <;> exact Iff.rfl
@[simp] theorem ex_xIf {c : MT} : Ex (xIf c f g) n0 ρ cs QX ↔ Et c ρ cs fun b cs1 => if b = true then Ex f n0 ρ cs1 QX else Ex g n0 ρ cs1 QX := by
  unfold Ex Et xIf
  rw [wpo_bindd]
  refine iff_of_eq (congrArg _ (funext fun b => funext fun cs1 => propext ?_))
  cases b <;> simp
@[simp] theorem ex_xRaise {nm : Str} : Ex (xRaise nm fe) n0 ρ cs QX ↔ Ev fe ρ cs fun r cs1 => DatOf r fun d => QX (.ex nm d ρ cs1) := by
  unfold Ex Ev xRaise DatOf
  rw [wpo_bindd]
  refine iff_of_eq (congrArg _ (funext fun x => funext fun cs1 => propext ?_))
  cases x <;> exact Iff.rfl
@[simp] theorem er_mCallX {n : Nat} {m : MFX} {fr : MA} : Er (mCallX n m fr) ρ cs QR ↔ Ea fr ρ cs fun rs cs1 => rs.length = n ∧ Emx m rs cs1 QR := by
  unfold Er Ea Emx mCallX
  rw [wpo_bindd]
  refine iff_of_eq (congrArg _ (funext fun x => funext fun cs1 => propext ?_))
  exact wpd_ite
@[simp] theorem er_rIf {c : MT} {g : MR} : Er (rIf c h g) ρ cs QR ↔ Et c ρ cs fun b cs1 => if b = true then Er h ρ cs1 QR else Er g ρ cs1 QR := by
  unfold Er Et rIf
  rw [wpo_bindd]
  refine iff_of_eq (congrArg _ (funext fun b => funext fun cs1 => propext ?_))
  cases b <;> simp
@[simp] theorem er_rPl : Er (rPl fa) ρ cs QR ↔ Ev fa ρ cs fun r cs1 => QR (.ok r cs1) := wpo_mapd
/-- the result of a call, where it stands alone -/
def XE1 (ρ : Rho) (Q : XOu → Prop) : RX → Prop
  | .ex nm d cs' => Q (.ex nm d ρ cs')
  | .ok _ cs' => Q (.out (.nx ρ cs'))
@[simp] theorem xe1_ex {nm : Str} {d : D} : XE1 ρ QX (.ex nm d cs) ↔ QX (.ex nm d ρ cs) := Iff.rfl
@[simp] theorem xe1_ok {r : Rv} : XE1 ρ QX (.ok r cs) ↔ QX (.out (.nx ρ cs)) := Iff.rfl
@[simp] theorem ex_xExpr : Ex (xExpr h) n0 ρ cs QX ↔ Er h ρ cs (XE1 ρ QX) := by
  unfold Ex Er xExpr
  rw [wpd_map]
  refine iff_of_eq (congrArg _ (funext fun x => propext ?_))
  cases x <;> exact Iff.rfl
def XR1 (n0 : Nat) (ρ : Rho) (Q : XOu → Prop) : RX → Prop
  | .ex nm d cs' => Q (.ex nm d ρ cs')
  | .ok r cs' => Ret n0 r cs' fun o => Q (.out o)
@[simp] theorem xr1_ex {nm : Str} {d : D} : XR1 n0 ρ QX (.ex nm d cs) ↔ QX (.ex nm d ρ cs) := Iff.rfl
@[simp] theorem xr1_ok {r : Rv} : XR1 n0 ρ QX (.ok r cs) ↔ Ret n0 r cs fun o => QX (.out o) := Iff.rfl
@[simp] theorem ex_xRet : Ex (xRet h) n0 ρ cs QX ↔ Er h ρ cs (XR1 n0 ρ QX) := by
  unfold Ex Er xRet
  rw [wpd_bind]
  refine iff_of_eq (congrArg _ (funext fun x => propext ?_))
  cases x with
  | ex nm d cs' => exact Iff.rfl
  | ok r cs' =>
    show wpd ((sRet (fun _ _ => some (r, cs')) n0 ρ cs').map XOu.out) QX ↔ _
    rw [wpd_map]
    exact es_sRet
def XS1 (i : Nat) (ρ : Rho) (Q : XOu → Prop) : RX → Prop
  | .ex nm d cs' => Q (.ex nm d ρ cs')
  | .ok r cs' => DatOf r fun d => Q (.out (.nx (ρ.set i (some (.dat d))) cs'))
@[simp] theorem xs1_ex {i : Nat} {nm : Str} {d : D} : XS1 i ρ QX (.ex nm d cs) ↔ QX (.ex nm d ρ cs) := Iff.rfl
@[simp] theorem xs1_ok {i : Nat} {r : Rv} : XS1 i ρ QX (.ok r cs) ↔ DatOf r fun d => QX (.out (.nx (ρ.set i (some (.dat d))) cs)) := Iff.rfl
@[simp] theorem ex_xSet {i : Nat} : Ex (xSet i h) n0 ρ cs QX ↔ Er h ρ cs (XS1 i ρ QX) := by
  unfold Ex Er xSet
  rw [wpd_bind]
  refine iff_of_eq (congrArg _ (funext fun x => propext ?_))
  cases x with
  | ex nm d cs' => exact Iff.rfl
  | ok r cs' => cases r <;> exact Iff.rfl
def FinX (n : Nat) (Q : RX → Prop) : XOu → Prop
  | .ex nm d _ cs' => Q (.ex nm d (cs'.take n))
  | .out o => Fin n (fun r cs' => Q (.ok r cs')) o
@[simp] theorem finx_ex {n : Nat} {nm : Str} {d : D} : FinX n QR (.ex nm d ρ cs) ↔ QR (.ex nm d (cs.take n)) := Iff.rfl
@[simp] theorem finx_out {n : Nat} {o : Out} : FinX n QR (.out o) ↔ Fin n (fun r cs' => QR (.ok r cs')) o := Iff.rfl
theorem finM_iff {n : Nat} {o : Out} {Q : Rv → Cs → Prop} : wpo (finM n o) Q ↔ Fin n Q o := by
  cases o with
  | rt r cs' =>
    cases r with
    | dat d => exact Iff.rfl
    | fr c => exact Iff.rfl
    | exn nm d => exact Iff.rfl
    | ft d => exact Iff.rfl
    | gr d k n => exact Iff.rfl
    | own k =>
      show wpo (if n ≤ k then _ else none) Q ↔ n ≤ k ∧ wpd cs'[k]?.join _
      rw [wpo_ite]
      refine and_congr_right fun _ => ?_
      cases cs'[k]? with
      | none => exact Iff.rfl
      | some x => cases x <;> exact Iff.rfl
  | nx ρ cs' => exact Iff.rfl
  | bk _ _ => exact Iff.rfl
  | ct _ _ => exact Iff.rfl
theorem emx_fnX {n : Nat} {b : MX} {rs : List Rv} : Emx (fnX n b) rs cs QR ↔ Ex b cs.length (rs.map some ++ List.replicate (n - rs.length) none) cs (FinX cs.length QR) := by
  unfold Emx Ex fnX
  rw [wpd_bind]
  refine iff_of_eq (congrArg _ (funext fun x => propext ?_))
  cases x with
  | ex nm d ρ cs' => exact Iff.rfl
  | out o =>
    show wpd ((finM cs.length o).map fun p => RX.ok p.1 p.2) QR ↔ _
    rw [wpo_mapd]
    exact finM_iff
def OkX (Q : Rv → Cs → Prop) : RX → Prop
  | .ok r cs' => Q r cs'
  | .ex _ _ _ => False
@[simp] theorem okx_ok {r : Rv} : OkX Q (.ok r cs) ↔ Q r cs := Iff.rfl
@[simp] theorem okx_ex {nm : Str} {d : D} : OkX Q (.ex nm d cs) ↔ False := Iff.rfl
theorem em_okM {m : MFX} {rs : List Rv} : Em (okM m) rs cs Q ↔ Emx m rs cs (OkX Q) := by
  unfold Em Emx okM
  rw [wpd_bindo]
  refine iff_of_eq (congrArg _ (funext fun x => propext ?_))
  cases x <;> exact Iff.rfl
def Tr (nm' : Str) (i j : Nat) (Q : Out → Prop) : XOu → Prop
  | .out o => Q o
  | .ex nm d ρ' cs' => (decide (i < ρ'.length) && subN nm nm') = true ∧ Q (.nx ((ρ'.set j (some (.exn nm d))).set i none) cs')
@[simp] theorem tr_out {nm' : Str} {i j : Nat} {o : Out} : Tr nm' i j QS (.out o) ↔ QS o := Iff.rfl
@[simp] theorem tr_ex {nm' nm : Str} {d : D} {i j : Nat} : Tr nm' i j QS (.ex nm d ρ cs) ↔ (decide (i < ρ.length) && subN nm nm') = true ∧ QS (.nx ((ρ.set j (some (.exn nm d))).set i none) cs) := Iff.rfl
@[simp] theorem es_sTry {nm' : Str} {i j : Nat} : Es (sTry nm' i j f) n0 ρ cs QS ↔ Ex f n0 ρ cs (Tr nm' i j QS) := by
  unfold Es Ex sTry
  rw [wpd_bind]
  refine iff_of_eq (congrArg _ (funext fun x => propext ?_))
  cases x with
  | out o => exact Iff.rfl
  | ex nm d ρ' cs' => exact wpd_ite
def IsX1 (nm : Str) (r : Rv) (cs : Cs) (Q : Rv → Cs → Prop) : Prop := match r with
  | .exn n _ => Q (db (subN n nm)) cs
  | r => Rd1 r cs fun _ => Q (db false) cs
@[simp] theorem isx1_exn {nm n : Str} {d : D} : IsX1 nm (.exn n d) cs Q ↔ Q (db (subN n nm)) cs := Iff.rfl
@[simp] theorem isx1_dat {nm : Str} {d : D} : IsX1 nm (.dat d) cs Q ↔ Q (db false) cs := Iff.rfl
@[simp] theorem isx1_fr {nm : Str} {c : List D} : IsX1 nm (.fr c) cs Q ↔ Q (db false) cs := Iff.rfl
@[simp] theorem ev_mIsX {nm : Str} : Ev (mIsX nm fa) ρ cs Q ↔ Ev fa ρ cs fun r cs1 => IsX1 nm r cs1 Q := by
  unfold Ev mIsX
  rw [wpo_bind]
  refine iff_of_eq (congrArg _ (funext fun x => funext fun cs1 => propext ?_))
  cases x <;> first | exact Iff.rfl | exact wpd_mapo
def Val1 (r : Rv) (Q : D → Prop) : Prop := match r with
  | .exn _ d => Q d
  | _ => False
@[simp] theorem val1_exn {nm : Str} {d : D} {Q : D → Prop} : Val1 (.exn nm d) Q ↔ Q d := Iff.rfl
@[simp] theorem ev_mVal : Ev (mVal fa) ρ cs Q ↔ Ev fa ρ cs fun r cs1 => Val1 r fun d => Q (.dat d) cs1 := by
  unfold Ev mVal
  rw [wpo_bind]
  refine iff_of_eq (congrArg _ (funext fun x => funext fun cs1 => propext ?_))
  cases x <;> exact Iff.rfl
def IsN1 (p : Bool → Bool) (r : Rv) (cs : Cs) (Q : Rv → Cs → Prop) : Prop := match r with
  | .exn _ _ => Q (db (p false)) cs
  | r => Rd1 r cs fun d => Q (db (p (isNonD d))) cs
@[simp] theorem isn1_exn {p : Bool → Bool} {n : Str} {d : D} : IsN1 p (.exn n d) cs Q ↔ Q (db (p false)) cs := Iff.rfl
@[simp] theorem isn1_dat {p : Bool → Bool} {d : D} : IsN1 p (.dat d) cs Q ↔ Q (db (p (isNonD d))) cs := Iff.rfl
@[simp] theorem isn1_fr {p : Bool → Bool} {c : List D} : IsN1 p (.fr c) cs Q ↔ Q (db (p false)) cs := Iff.rfl
@[simp] theorem ev_mIsN {p : Bool → Bool} : Ev (mIsN p fa) ρ cs Q ↔ Ev fa ρ cs fun r cs1 => IsN1 p r cs1 Q := by
  unfold Ev mIsN
  rw [wpo_bind]
  refine iff_of_eq (congrArg _ (funext fun x => funext fun cs1 => propext ?_))
  cases x <;> first | exact Iff.rfl | exact wpd_mapo
def Elx (t : MG) (b : MX) (n0 : Nat) (ds : List D) (ρ : Rho) (cs : Cs) (Q : XOu → Prop) : Prop := wpd (loopX t b n0 ds ρ cs) Q
@[simp] theorem ex_xFor {i : MI} {t : MG} {b : MX} : Ex (xFor i t b) n0 ρ cs QX ↔ Ei i ρ cs fun ds cs1 => Elx t b n0 ds ρ cs1 QX := wpo_bindd
@[simp] theorem elx_nil {t : MG} {b : MX} : Elx t b n0 [] ρ cs QX ↔ QX (.out (.nx ρ cs)) := Iff.rfl
def Lpx (t : MG) (b : MX) (n0 : Nat) (ds : List D) (Q : XOu → Prop) : XOu → Prop
  | .out (.nx ρ cs) => Elx t b n0 ds ρ cs Q
  | .out (.ct ρ cs) => Elx t b n0 ds ρ cs Q
  | .out (.bk ρ cs) => Q (.out (.nx ρ cs))
  | .out (.rt r cs) => Q (.out (.rt r cs))
  | .ex nm d ρ cs => Q (.ex nm d ρ cs)
@[simp] theorem lpx_nx {t : MG} {b : MX} {ds : List D} : Lpx t b n0 ds QX (.out (.nx ρ cs)) ↔ Elx t b n0 ds ρ cs QX := Iff.rfl
@[simp] theorem lpx_ct {t : MG} {b : MX} {ds : List D} : Lpx t b n0 ds QX (.out (.ct ρ cs)) ↔ Elx t b n0 ds ρ cs QX := Iff.rfl
@[simp] theorem lpx_rt {t : MG} {b : MX} {ds : List D} {r : Rv} : Lpx t b n0 ds QX (.out (.rt r cs)) ↔ QX (.out (.rt r cs)) := Iff.rfl
@[simp] theorem lpx_ex {t : MG} {b : MX} {ds : List D} {nm : Str} {d : D} : Lpx t b n0 ds QX (.ex nm d ρ cs) ↔ QX (.ex nm d ρ cs) := Iff.rfl
theorem elx_cons {t : MG} {b : MX} {d : D} {ds : List D} : Elx t b n0 (d :: ds) ρ cs QX ↔ Eg t d ρ fun ρ1 => Ex b n0 ρ1 cs (Lpx t b n0 ds QX) := by
  unfold Elx Eg Ex
  rw [show loopX t b n0 (d :: ds) ρ cs = (t d ρ).bind fun ρ1 => (b n0 ρ1 cs).bind fun o => match o with
    | .out (.nx ρ2 cs2) => loopX t b n0 ds ρ2 cs2
    | .out (.ct ρ2 cs2) => loopX t b n0 ds ρ2 cs2
    | .out (.bk ρ2 cs2) => some (.out (.nx ρ2 cs2))
    | .out (.rt r cs2) => some (.out (.rt r cs2))
    | .ex nm d ρ2 cs2 => some (.ex nm d ρ2 cs2) from rfl, wpd_bind]
  refine iff_of_eq (congrArg _ (funext fun ρ1 => propext ?_))
  rw [wpd_bind]
  refine iff_of_eq (congrArg _ (funext fun o => propext ?_))
  cases o with
  | ex nm d ρ cs => exact Iff.rfl
  | out o => cases o <;> exact Iff.rfl
/-- a def that may raise, told by its plain law -/
theorem emx_mono {m : MFX} {rs : List Rv} {Q R : RX → Prop} (h : Emx m rs cs Q) (i : ∀ x, Q x → R x) : Emx m rs cs R := wpd_mono h i
end
end DL
/-! W1: rules as the printed walk names them. -/
namespace DL
open PySem PySem.Spec PyProof.Rows L2
section
variable {X : Cx}
theorem Rm.ofnox (rm : Rm X.nox) : Rm X := ⟨rm.hd, rm.un, rm.gd, rm.calm, rm.nd⟩
theorem Rm.tr (rm : Rm X) (pn : List (Addr × Obj)) (xe : Value → Shared → Prop) : Rm (X.tr pn xe).nox := ⟨rm.hd, rm.un, rm.gd, rm.calm, rm.nd⟩
theorem w_isX {e : Expr} {x : Str} {f : ME} {p pt pos : Pos} (hm : X.mg "isinstance" = none) (hc : ∃ C, ClsOf X.K X.mg x C) (he : XE X f e) (hg : Gl X "isinstance" := by rfl) (hx : Gl X x := by rfl) (hd : (x == ("__debug__" : Str)) = false := by decide)
    (h1 : starEach [e, .Name x pt] X.env = (false, eval e X.env) :: starEach [.Name x pt] X.env := by rfl) (hpl : (backTo pos (starEach [.Name x pt] X.env)).any (·.1) = false := by rfl) :
    XE X (mIsX x f) (.Call (.Name "isinstance" p) [e, .Name x pt] [] pos) := by
  obtain ⟨C, hc⟩ := hc
  exact xe_isX hg hm hx hc he hd h1 hpl
theorem w_val {e : Expr} {f : ME} {pos : Pos} (he : XE X f e) (hb : attributeBase e "value" X.env (eval e X.env) = eval e X.env := by rfl) : XE X (mVal f) (.Attribute e "value" pos) := xe_val he hb
theorem w_gval {x : Str} {d : D} {pos : Pos} (g : GVal X.K X.mg x d) (hg : Gl X x := by rfl) (hd : (x == ("__debug__" : Str)) = false := by decide) : XE X (xC d) (.Name x pos) := xe_gval hg g hd
theorem w_try {x n m : Str} (i j : Nat) {body : List Stmt} {f : MX} {np p1 p2 p3 pos pos' : Pos} (hc : ∃ C, ClsOf X.K X.mg x C ∧ PySem.W.subIn X.K (.ref C) (.type "BaseException") = some true)
    (hN : X.N.Nodup) (hb : ∀ (pn : List (Addr × Obj)) (xe : Value → Shared → Prop), PassesOwn (model X.prog X.w) X.A X.env xe → XSX (X.tr pn xe) f body)
    (hi : X.N[i]? = some n := by rfl) (hj : X.N[j]? = some m := by rfl) (hij : (i == j) = false := by decide) (hln : X.env.kindOf n = some .local := by rfl) (hloc : Loc X.env.scope m := by first | exact Or.inl rfl | exact Or.inr rfl)
    (hg : Gl X x := by rfl) (hdb : (x == ("__debug__" : Str)) = false := by decide) (hv : Vis X.env.scope n := by first | exact Or.inl rfl | exact Or.inr (Or.inl rfl) | exact Or.inr (Or.inr rfl)) (hd : (n == ("__debug__" : Str)) = false := by decide) (hcd : (n == ("__classdict__" : Str)) = false := by decide)
    (hs : swapsWith (.Name n p2) (some (.Name m p1)) p3.line X.env = pure false := by rfl) (hfn : X.fn m = true ∨ X.env.scope.names.lookup m = some .local := by first | exact .inl rfl | exact .inr rfl)
    (hex : X.ex = [] := by rfl) (hst : X.stack = X.env :: X.outer := by rfl) (hf : X.env.frame = some X.env.locals := by rfl) :
    XS X (sTry x i j f) (.Try body [.ExceptHandler (some (.Name x np)) (some n) [.Assign [.Name m p1] (.Name n p2) p3] pos'] [] [] pos) := by
  obtain ⟨C, hc, hb'⟩ := hc
  exact xs_try hc hb' hN hb hi hj hij hln hloc hg hdb hv hd hcd hs hfn hex hst hf
theorem w_raise {nm : Str} {a : Expr} {fe : ME} {p pos pos2 : Pos} {k : Nat} (R : RaC X.prog X.K X.mg nm) (hr : Room k X.A) (rm : Rm X.nox) (ha : XE X.nox fe a) (hg : Gl X nm := by rfl)
    (hdb : (nm == ("__debug__" : Str)) = false := by decide) (he : starEach (a :: []) X.env = (false, eval a X.env) :: starEach [] X.env := by rfl) (hpl : (backTo pos (starEach [] X.env)).any (·.1) = false := by rfl) :
    X1 X (xRaise nm fe) (.Raise (some (.Call (.Name nm p) [a] [] pos)) none pos2) := x1_raise R rm.calm hr ha hg hdb he hpl
theorem w_setX (i : Nat) {x : Str} {e : Expr} {f : MR} {pos pos' : Pos} (hN : X.N.Nodup) (he : XR X f e) (hi : X.N[i]? = some x := by rfl) (hx : Loc X.env.scope x := by first | exact Or.inl rfl | exact Or.inr rfl) (hs : swapsWith e (some (.Name x pos')) pos.line X.env = pure false := by rfl)
    (hf : X.fn x = true ∨ X.env.scope.names.lookup x = some .local := by first | exact .inl rfl | exact .inr rfl) : X1 X (xSet i f) (.Assign [.Name x pos'] e pos) := x1_set hN hi hx he hs hf
theorem w_forX (ws : List Nat) {tg iter : Expr} {body : List Stmt} {f : MI} {g : MG} {b : MX} {pos : Pos} (hp : PassesOwn (model X.prog X.w) X.A X.env X.xe) (rm : Rm X.nox) (hi : XI X f tg iter) (hg : XG X ws g tg) (hb : XSX X b body)
    (hs : ∀ x, foldedSetIterable iter X.env x = pure x := by intro _; rfl) : X1 X (xFor f g b) (.For tg iter body [] pos) := x1_for hp rm.calm hi hg hb hs
/-- the class's __init__ -/
def clsInit : Stmt → Stmt
  | .ClassDef _ _ _ body _ _ _ _ _ _ _ => (body.find? fun s => match s with
    | .FunctionDef n .. => n == ("__init__" : Str)
    | _ => false).getD (.Pass ⟨0, 0, 0, 0⟩)
  | s => s
end
end DL
/-! EX7: defs as values: called by a local name. -/
namespace DL
open PySem PySem.Spec PyProof.Rows L2
/-- the module's name x is a def -/
structure FnV (K : PySem.W.Frag) (mg : Str → Option Value) (x : Str) : Prop where
  ex : ∃ f : Addr, mg x = some (.ref f) ∧ FnAt K x f
theorem FnV.g {K : PySem.W.Frag} {mg : Str → Option Value} {x : Str} (v : FnV K mg x) : GVal K mg x (fnD x) :=
  let ⟨f, h1, h2⟩ := v.ex
  ⟨f, h1, fun _ => .fn h2⟩
/-- what a value that is called computes -/
def fnOf (tbl : List (Str × MFX)) : Option (Option Rv) → Option MFX
  | some (some (.dat (.dict [(.none, .str nm)]))) => tbl.lookup nm
  | _ => none
def mCallL (tbl : List (Str × MFX)) (n i : Nat) (fa : MA) : MR := fun ρ cs => (fnOf tbl ρ[i]?).bind fun m => mCallX n m fa ρ cs
section
variable {X : Cx}
/-- one def of a table, of n parameters -/
structure Ent (X : Cx) (k n : Nat) (x : Str) (m : MFX) : Prop where
  ex : ∃ (f : Addr) (fd : FuncData) (ps : List Str), FnX X.prog X.w X.K X.mg X.base k f fd ps m ∧ PySem.W.keepIn X.K (.ref f) = true ∧ Binds X.K fd ps [] ∧ ps.length = n ∧ FnAt X.K x f
theorem ent_of {k j n : Nat} {x : Str} {st : Stmt} {ps : List Str} {m : MFX} (C : CalX X.prog X.w X.K X.mg X.base j x st ps m) (v : FnV X.K X.mg x) (hj : j ≤ k) (hn : ps.length = n) : Ent X k n x m := by
  obtain ⟨f, fd, F, G, hm, hb⟩ := C.ex
  obtain ⟨f', h1, h2⟩ := v.ex
  have e := hm.symm.trans h1
  cases e
  exact ⟨f, fd, ps, G.mono hj, F.kp, hb, hn, h2⟩
def Tbl (X : Cx) (k n : Nat) (tbl : List (Str × MFX)) : Prop := ∀ p ∈ tbl, Ent X k n p.1 p.2
theorem tbl_nil {k n : Nat} : Tbl X k n [] := fun _ h => nomatch h
theorem tbl_cons {k n : Nat} {x : Str} {m : MFX} {tbl : List (Str × MFX)} (h : Ent X k n x m) (t : Tbl X k n tbl) : Tbl X k n ((x, m) :: tbl) := fun p hp => by
  rcases List.mem_cons.mp hp with rfl | hp
  · exact h
  · exact t p hp
theorem lookup_mem {tbl : List (Str × MFX)} {nm : Str} {m : MFX} (h : tbl.lookup nm = some m) : (nm, m) ∈ tbl := by
  induction tbl with
  | nil => cases h
  | cons p r ih =>
    rw [List.lookup_cons] at h
    cases q : nm == p.1 with
    | true =>
      rw [q] at h
      cases h
      have : nm = p.1 := beq_iff_eq.mp q
      rw [this]
      exact List.mem_cons_self ..
    | false =>
      rw [q] at h
      exact List.mem_cons_of_mem _ (ih h)
theorem xr_callL {k n i : Nat} {tbl : List (Str × MFX)} {x : Str} {e : Expr} {es : List Expr} {fa : MA} {p pos : Pos} (T : Tbl X k n tbl) (hr : Room k X.A) (rm : Rm X.nox) (hi : X.N[i]? = some x) (hv : Vis X.env.scope x) (ha : XA X.nox fa (e :: es))
    (hd : (x == ("__debug__" : Str)) = false := by decide) (hcd : (x == ("__classdict__" : Str)) = false := by decide)
    (he : starEach (e :: es) X.env = (false, eval e X.env) :: starEach es X.env := by rfl) (hpl : (backTo pos (starEach es X.env)).any (·.1) = false := by rfl) : XR X (mCallL tbl n i fa) (.Call (.Name x p) (e :: es) [] pos) := fun W tk => by
  refine ⟨fun pins s σ H Q I ⟨ρ, O, cs, y, e0, en, w, pq⟩ => ?_⟩
  obtain ⟨m, h0, e0⟩ := Option.bind_eq_some_iff.mp e0
  obtain ⟨⟨rs, cs1⟩, h1, h2⟩ := Option.bind_eq_some_iff.mp e0
  obtain ⟨hl, em⟩ := ite_none h2
  unfold fnOf at h0
  split at h0
  · rename_i nm hq
    obtain ⟨v, q1, q2⟩ := en.slot i _ hq
    obtain ⟨f, rfl, fat⟩ : ∃ f, v = .ref f ∧ FnAt X.K nm f := by
      cases (show Rp X.K (DL.hd O H) v (.dict [(.none, .str nm)]) from q2) with
      | fn q => exact ⟨_, rfl, q⟩
      | @dct _ _ kvs _ q e r =>
        exfalso
        cases kvs with
        | nil => cases e
        | cons p r' =>
          obtain ⟨k, v⟩ := p
          simp at e
          cases k <;> cases e.1
    obtain ⟨f', fd, ps, F, hk, hb, hn, fat'⟩ := T (nm, m) (lookup_mem h0)
    have ef : f' = f := by
      have := fat'.1.symm.trans fat.1
      cases this
      rfl
    subst ef
    refine wpAny_Call_Name_kw ?_
    refine thn ((pe_var hi hv hd hcd).run pins s σ H (fun v H1 => v = .ref f' ∧ H1 = H) I ⟨_, q1, rfl, rfl⟩) fun u s0 hu => ?_
    obtain ⟨v', H0, I0, rv', e1, e2⟩ := hu
    subst e1 e2
    cases (show u = Value.ref f' from rv')
    have ha' : PA X (e :: es) (tXA X.K fa) := PA.nox' ha
    have hrun := ha'.run pos pins s0 σ H0 (ArgP X.K O H0 cs1 rs) I0 ⟨ρ, O, cs, rs, cs1, h1, en, w, fun vs H' c w' ra => ⟨c, w', ra⟩⟩
    refine PySem.W.callWith_K (h₀ := X.base) I0.ok.mod.kin hk (thn hrun fun us s1 hus => ?_) he hpl
    obtain ⟨vs, H1, I1, rv, c1, w1, ra⟩ := hus
    refine ⟨I1.kIn, ?_⟩
    have hb' := hb s1 us I1.kIn (by rw [List.append_nil, hn, ← hl, ← rv.length, ← ra.length])
    rw [List.append_nil] at hb'
    exact callX_end tk F hr rm.gd rm.nd I1 hb' rv (by rw [hn]; exact hl) w1 ra em (pq.step c1 w1)
  · cases h0
theorem wr_callL {k n : Nat} {tbl : List (Str × MFX)} {x : Str} (i : Nat) {e : Expr} {es : List Expr} {fa : MA} {p pos : Pos} (T : Tbl X k n tbl) (hr : Room k X.A) (rm : Rm X.nox) (ha : XA X.nox fa (e :: es)) (hi : X.N[i]? = some x := by rfl) (hv : Vis X.env.scope x := by first | exact Or.inl rfl | exact Or.inr (Or.inl rfl) | exact Or.inr (Or.inr rfl))
    (hd : (x == ("__debug__" : Str)) = false := by decide) (hcd : (x == ("__classdict__" : Str)) = false := by decide)
    (he : starEach (e :: es) X.env = (false, eval e X.env) :: starEach es X.env := by rfl) (hpl : (backTo pos (starEach es X.env)).any (·.1) = false := by rfl) : XR X (mCallL tbl n i fa) (.Call (.Name x p) (e :: es) [] pos) :=
  xr_callL T hr rm hi hv ha hd hcd he hpl
theorem Rm.w (rm : Rm X) (xe : Value → Shared → Prop) : Rm (X.wish xe).nox := ⟨rm.hd, rm.un, rm.gd, rm.calm, rm.nd⟩
/-- a call that raises nothing, plainly -/
def mPl (f : MR) : ME := fun ρ cs => (f ρ cs).bind fun x => match x with
  | .ok r cs' => some (r, cs')
  | .ex _ _ _ => none
theorem xe_pl {f : MR} {e : Expr} (h : ∀ xe, XR (X.wish xe) f e) : XE X (mPl f) e := by
  refine ⟨fun pins s σ H Q I ⟨ρ, O, cs, r, cs', e0, en, w, p⟩ => ?_⟩
  obtain ⟨y, h1, h2⟩ := Option.bind_eq_some_iff.mp e0
  cases y with
  | ex nm d cs1 => cases h2
  | ok r1 cs1 =>
    cases h2
    have hh := h (fun _ _ => False) (fun _ _ _ _ => False) (fun u s' ⟨_, _, _, _, _, _, _, _, _, _, _, _, _, _, _, _, z⟩ => z.elim)
    refine wpAny_mono (hh.run pins s σ H Q (I.wish _) ⟨ρ, O, cs, _, h1, en, w, p⟩) (fun _ _ ⟨v, H', I', r, q⟩ => ⟨v, H', I'.unwish, r, q⟩) fun _ _ z => False.elim z
end
/-- a def that raises nothing, as one of a table -/
def plX (m : MF) : MFX := fun rs cs => (m rs cs).map fun p => .ok p.1 p.2
theorem FnD.toX {P : Program} {w : World} {K : PySem.W.Frag} {mg : Str → Option Value} {base : Heap} {k : Nat} {f : Addr} {fd : FuncData} {ps : List Str} {m : MF} (F : FnD P w K mg base k f fd ps m) : FnX P w K mg base k f fd ps (plX m) :=
  ⟨fun A outer s H args us vs Q E rs O cs x hg hnd hr e0 hb rv hl wd ar em p => by
    obtain ⟨⟨r, cs'⟩, h1, rfl⟩ := Option.map_eq_some_iff.mp em
    refine codeAny_mono (F.run A outer s H args us vs Q rs O cs r cs' hg hnd hr e0 hb rv hl wd ar h1 p) fun res s' hq => ?_
    cases res with
    | error e => exact hq.elim
    | ok fl =>
      cases fl with
      | ret u => exact hq
      | next => exact hq.elim
      | brk => exact hq.elim
      | cont => exact hq.elim⟩
theorem Cal.toX {P : Program} {w : World} {K : PySem.W.Frag} {mg : Str → Option Value} {base : Heap} {k : Nat} {x : Str} {st : Stmt} {ps : List Str} {m : MF} (C : Cal P w K mg base k x st ps m) : CalX P w K mg base k x st ps (plX m) :=
  let ⟨f, fd, F, G, hm, hb⟩ := C.ex
  ⟨f, fd, F, G.toX, hm, hb⟩
/-! running -/
section
variable {ρ : Rho} {cs : Cs} {QR : RX → Prop} {Q : Rv → Cs → Prop}
@[simp] theorem er_mCallL {tbl : List (Str × MFX)} {n i : Nat} {fa : MA} : Er (mCallL tbl n i fa) ρ cs QR ↔ wpd (fnOf tbl ρ[i]?) fun m => Er (mCallX n m fa) ρ cs QR := by
  unfold Er mCallL
  exact wpd_bind
@[simp] theorem fnOf_fn {tbl : List (Str × MFX)} {nm : Str} : fnOf tbl (some (some (.dat (fnD nm)))) = tbl.lookup nm := rfl
@[simp] theorem ev_mPl {f : MR} : Ev (mPl f) ρ cs Q ↔ Er f ρ cs (OkX Q) := by
  unfold Ev Er mPl
  rw [wpd_bindo]
  refine iff_of_eq (congrArg _ (funext fun x => propext ?_))
  cases x <;> exact Iff.rfl
theorem emx_plX {m : MF} {rs : List Rv} : Emx (plX m) rs cs QR ↔ Em m rs cs fun r cs' => QR (.ok r cs') := by
  unfold Emx Em plX
  exact wpo_mapd
end
end DL
/-! RG: repr of data with dicts within. -/
namespace DL
open PySem PySem.Spec PyProof.Rows L2
/-- sys.modules is a dict of the written part -/
structure SysD (K : PySem.W.Frag) : Prop where
  ex : ∃ o, K.lookup sysModules = some o ∧ o.cls = .type "dict"
section
variable {X : Cx} {pins : List (Addr × Obj)} {σ : L2.St} {H : Hp} {s : Shared}
theorem SysD.ne (S : SysD X.K) (I : Inv X pins σ H s) {a : Addr} {o : Obj} {T : String} (h : s.heap.get? a = some o) (hc : o.cls = .type T) (hT : T ≠ "dict") : a ≠ sysModules := by
  obtain ⟨om, h1, h2⟩ := S.ex
  intro e
  subst e
  have := I.kIn _ _ h1
  rw [h] at this
  cases this
  rw [hc] at h2
  cases h2
  exact hT rfl
mutual
theorem Rp.reads2 (I : Inv X pins σ H s) (S : SysD X.K) : ∀ {v : V} {d : D}, Rp X.K H v d → noF d = true → ∀ u : Value, RelV v u → ∃ as, Reads s.heap u d as ∧ sysModules ∉ as
  | _, _, .non, _, u, r => by cases r; exact ⟨_, Reads.none, by simp⟩
  | _, _, .bl b, _, u, r => by cases r; exact ⟨_, Reads.bool b, by simp⟩
  | _, _, .int i, _, u, r => by obtain ⟨t, rfl⟩ := r; exact ⟨_, Reads.int i t, by simp⟩
  | _, _, .str x _, _, u, r => by obtain ⟨t, rfl⟩ := r; exact ⟨_, Reads.str x t, by simp⟩
  | _, _, .lst q a, nf, u, r => by
    cases r
    unfold noF at nf
    obtain ⟨its, rv, ⟨o, n, ho, hc, _, hd⟩, _⟩ := I.list q.sq
    obtain ⟨as, hr, hn⟩ := RpAll.reads2 I S a nf its rv
    refine ⟨_, Reads.list ho hc hd hr, fun z => ?_⟩
    rcases List.mem_cons.mp z with z | z
    · exact S.ne I ho hc (by decide) z.symm
    · exact hn z
  | _, _, .tup q a, nf, u, r => by
    cases r
    unfold noF at nf
    obtain ⟨its, rv, ⟨o, ho, hc, n, hd⟩, _⟩ := I.tuple q
    obtain ⟨as, hr, hn⟩ := RpAll.reads2 I S a nf its rv
    exact ⟨_, Reads.tuple ho hc hd hr, hn⟩
  | _, _, .fn q, nf, _, _ => by unfold noF at nf; cases nf
  | _, _, .dct (a := a) (kvs := kvs) (ds := ds) q e b, nf, u, r => by
    cases r
    unfold noF at nf
    have nf := noFk_snd (Bool.and_eq_true_iff.mp nf).2
    obtain ⟨hz, hS, vs, rk, m⟩ := dk_rd I.hok (.inr ⟨_, q⟩)
    obtain ⟨es, ep, ⟨o, ho, hx, hd⟩, hl, hk⟩ := Heap.DictOf.raw m
    have hlen : kvs.length = vs.length := Paired.length rk
    have rvals : Vals (kvs.map (·.2)) (es.toList.map (·.val)) := by
      have e1 : es.toList.map (·.val) = vs.map (·.2) := by
        apply List.ext_getElem?
        intro i
        rw [List.getElem?_map, List.getElem?_map]
        by_cases hi : i < es.size
        · have hi2 : i < vs.length := by omega
          rw [List.getElem?_eq_getElem (by simpa using hi), List.getElem?_eq_getElem hi2]
          have := (hk i hi vs[i].1 vs[i].2 (List.getElem?_eq_getElem hi2)).2
          simp [this]
        · rw [List.getElem?_eq_none (by simpa using hi), List.getElem?_eq_none (by omega)]; rfl
      rw [e1]
      clear hk e1 hl hd ho hx m hz hS
      clear b e q
      clear hlen
      induction rk with
      | nil => exact .nil
      | cons p _ ih => exact .cons p.2 ih
    obtain ⟨as, h1⟩ := keys_reads (h := s.heap) (kvs := kvs) (us := es.toList.map (·.key)) e (fun i k v h => by
      have hi : i < kvs.length := (List.getElem?_eq_some_iff.mp h).1
      have hi2 : i < es.size := by omega
      have hi3 : i < vs.length := by omega
      have h3 : kvs[i]? = some kvs[i] := List.getElem?_eq_getElem hi
      have key : vs[i].1 = k := by
        have : ∀ {l : List (Key × V)} {m : List (Key × Value)}, KV l m → ∀ (j : Nat) p q, l[j]? = some p → m[j]? = some q → p.1 = q.1 := by
          intro l m r
          induction r with
          | nil => intro j p q h; simp at h
          | cons a _ ih =>
            intro j p q hp hq
            cases j with
            | zero => simp at hp hq; rw [← hp, ← hq]; exact a.1
            | succ j => exact ih j p q (by simpa using hp) (by simpa using hq)
        exact (this rk i _ _ h (List.getElem?_eq_getElem hi3)).symm
      have := (hk i hi2 vs[i].1 vs[i].2 (List.getElem?_eq_getElem hi3)).1
      refine ⟨es[i].key, ?_, ?_⟩
      · rw [List.getElem?_map, List.getElem?_eq_getElem (by simpa using hi2)]; simp
      · rw [← key]; exact this) (by simp; omega)
    obtain ⟨bs, h2, hn⟩ := RpAll.reads2 I S b nf _ rvals
    have ea : as = [] := reads_scal h1 fun d hd => by
      rw [← e] at hd
      obtain ⟨p, _, rfl⟩ := List.mem_map.mp hd
      cases p.1 <;> rfl
    subst ea
    refine ⟨_, Reads.dict ho hx.1 hd h1 h2, fun z => ?_⟩
    rcases List.mem_append.mp z with z | z
    · rcases List.mem_cons.mp z with z | z
      · exact beq_eq_false_iff_ne.mp hS z.symm
      · cases z
    · exact hn z
theorem RpAll.reads2 (I : Inv X pins σ H s) (S : SysD X.K) : ∀ {vs : List V} {ds : List D}, RpAll X.K H vs ds → noFs ds = true → ∀ us : List Value, Vals vs us → ∃ as, ReadsAll s.heap us ds as ∧ sysModules ∉ as
  | _, _, .nil, _, us, r => by cases r; exact ⟨_, ReadsAll.nil, by simp⟩
  | _, _, .cons a b, nf, us, r => by
    unfold noFs at nf
    obtain ⟨n1, n2⟩ := Bool.and_eq_true_iff.mp nf
    cases r with
    | cons r1 r2 =>
      obtain ⟨as, q1, m1⟩ := Rp.reads2 I S a n1 _ r1
      obtain ⟨bs, q2, m2⟩ := RpAll.reads2 I S b n2 _ r2
      exact ⟨_, ReadsAll.cons q1 q2, fun z => (List.mem_append.mp z).elim m1 m2⟩
end
def rG (d : D) : Bool := d.showable && noF d && decide (d.depth ≤ 100) && decide (d.shown.length ≤ sizeLine)
def rReprG (K : PySem.W.Frag) : List V → Hp → VK → Prop := fun xs H Q => ∃ x d, xs = [x] ∧ Rp K H x d ∧ rG d = true ∧ Q (.str d.shown) H
theorem call_reprG (rm : Rm X) (S : SysD X.K) : CallR X (.builtin "repr") (rReprG X.K) := by
  intro pins s σ H xs us Q I r h
  obtain ⟨x, d, rfl, rx, ok, q⟩ := h
  unfold rG at ok
  simp only [Bool.and_eq_true, decide_eq_true_eq] at ok
  obtain ⟨⟨⟨o1, o2⟩, o3⟩, o4⟩ := ok
  have go : ∀ (a : Addr), x = .ref a → wpAny (model X.prog X.w) X.A (call (.builtin "repr") us) (EP X pins σ Q) X.xe s := by
    intro a ea
    subst ea
    obtain ⟨u, rfl, ru⟩ := vals1 r
    obtain ⟨as, rd, hn⟩ := Rp.reads2 I S rx o2 _ ru
    cases ru
    exact repr_of_reads' (h₀ := s.heap) rd o1 (fun _ => hn) rm.gd (by have := rm.un; omega) (fun _ _ e => e) (fun h' u tk k => ⟨.str _, H, I.kept k, ⟨_, rfl⟩, q⟩) o4
  cases rx with
  | non =>
    obtain ⟨u, rfl, ru⟩ := vals1 r
    cases ru
    exact PySem.P.repr_of_none ⟨.str _, H, I.tok _, ⟨_, rfl⟩, q⟩
  | bl b =>
    obtain ⟨u, rfl, ru⟩ := vals1 r
    cases ru
    exact PySem.P.repr_of_bool ⟨.str _, H, I.tok _, ⟨_, rfl⟩, q⟩
  | int i =>
    obtain ⟨u, rfl, t, rfl⟩ := vals1 r
    exact PySem.P.repr_of_int (by simpa [PyData.showable] using o1) ⟨.str _, H, I.tok _, ⟨_, rfl⟩, q⟩
  | str y hz =>
    obtain ⟨u, rfl, t, rfl⟩ := vals1 r
    exact PySem.P.repr_of_str ⟨.str _, H, I.tok _, ⟨_, rfl⟩, q⟩ o4
  | lst _ _ => exact go _ rfl
  | tup _ _ => exact go _ rfl
  | dct _ _ _ => exact go _ rfl
  | fn _ => exact go _ rfl
def dReprG : List D → Option Rv
  | [d] => if rG d = true then some (.dat (.str d.shown)) else none
  | _ => none
theorem reprGS {K : PySem.W.Frag} : CaS K (rReprG K) dReprG := by
  intro O cs H vs ds z Q w hp g p
  match ds, g, hp with
  | [d], g, hp =>
    obtain ⟨x, rfl, sx⟩ := Paired.one hp
    obtain ⟨hz, rfl⟩ := ite_some g
    refine ⟨x, d, rfl, sx.rp, hz, post_str w ?_ p⟩
    unfold rG at hz
    simp only [Bool.and_eq_true, decide_eq_true_eq] at hz
    exact hz.2
theorem xe_reprG {e : Expr} {fa : MA} {p pos : Pos} (rm : Rm X) (S : SysD X.K) (hg : Gl X "repr") (hm : X.mg "repr" = none) (ha : XA X fa [e]) (he : starEach [e] X.env = (false, eval e X.env) :: starEach [] X.env := by rfl) : XE X (mCall dReprG fa) (.Call (.Name "repr" p) [e] [] pos) :=
  xe_callB (call_reprG rm S) reprGS hg hm (by decide +kernel) ha (he := he)
end
theorem repr_okG {d : D} (h : rG d = true) : dReprG [d] = some (.dat (.str d.shown)) := if_pos h
end DL
/-! HX: a Hook that also looks at own exception classes, and at whatever is asked of the written part. -/
namespace HX
open PySem PySem.Spec PyProof.Rows L2 He
abbrev FnI : Type := Option (Str × Str × Arguments × FuncBody × Scope × Addr × List Str × Addr)
def fnI (K : PySem.W.Frag) (x : Str) : FnI := match K.lookup (fAd K (x, some "__init__")) with
  | some ⟨_, _, .func fd, _⟩ => some (fd.name, fd.qualname, fd.params, fd.body, fd.scope, fd.globals, fd.closure.map (·.1), fd.builtins)
  | _ => none
/-- the __init__ of the class x -/
structure IniD where
  x : Str
  qual : Str
  params : Arguments
  body : List Stmt
  scope : Scope
  file : Str
def IniD.val (d : IniD) : FnI := some ("__init__", d.qual, d.params, .stmts d.body, d.scope, mainGlobals, ["__class__"], builtinsNs)
def codB (K : PySem.W.Frag) (file qual : Str) : Value → Bool
  | .ref cda => PySem.W.codeIn K (.ref cda) qual && (match K.lookup cda with
    | some ⟨_, _, .fields vs, _⟩ => (match (vs[2]? : Option Value) with
      | some (.str f _) => file == f
      | _ => false)
    | _ => false)
  | _ => false
def cloB (K : PySem.W.Frag) (D : Addr) : List (Str × Addr) → Bool
  | [p] => (match K.lookup p.2 with
    | some ⟨_, _, .cell (some (.ref E)), _⟩ => decide (E = D)
    | _ => false)
  | _ => false
def nonB : Value → Bool
  | .none => true
  | _ => false
def IniD.ok (K : PySem.W.Frag) (d : IniD) : Bool := match K.lookup (fAd K (d.x, some "__init__")) with
  | some ⟨_, _, .func fd, _⟩ => codB K d.file d.qual fd.code && (cloB K (ga K d.x) fd.closure && (nonB fd.defaults && (nonB fd.kwdefaults && (PySem.W.clsIn K (ga K d.x)).isSome)))
  | _ => false
abbrev AlX : Type := Bool × List FnW × List FnI
def obsX (fa : List Fa) (fn : List DefD) (xs : List (PySem.W.Frag → Bool)) (ini : List IniD) (K : PySem.W.Frag) : AlX := (((fa.all fun f => f.ok K) && fn.all fun d => d.ok K) && (xs.all (fun x => x K) && ini.all fun d => d.ok K), fn.map fun d => fnW K d.at_, ini.map fun d => fnI K d.x)
def valX (fn : List DefD) (ini : List IniD) : AlX := (true, fn.map DefD.val, ini.map IniD.val)
def SaysX (fa : List Fa) (fn : List DefD) (xs : List (PySem.W.Frag → Bool)) (ini : List IniD) (K : PySem.W.Frag) : Prop := obsX fa fn xs ini K = valX fn ini
def asX (g : Addr → Option Obj) (n : Nat) : List Addr := asD g n ++ [cStatics, sysModules]
def obsXG (n : Nat) (fa : List Fa) (fn : List DefD) (xs : List (PySem.W.Frag → Bool)) (ini : List IniD) (g : Addr → Option Obj) : AlX := obsX fa fn xs ini (frG g (asX g n))
def hookX (n : Nat) (fa : List Fa) (fn : List DefD) (xs : List (PySem.W.Frag → Bool)) (ini : List IniD) : PySem.W.Hook where
  α := AlX
  obs := fun s => obsXG n fa fn xs ini s.heap.get?
  val := fun _ => valX fn ini
  says := fun _ h => ∃ K : PySem.W.Frag, K.In h ∧ SaysX fa fn xs ini K
  of := fun _ _ e => ⟨_, frG_in, e⟩
  keeps := fun _ _ _ ⟨K, hK, c⟩ k => ⟨K, PySem.W.Frag.In.keeps hK k, c⟩
theorem obsXG_eq {n : Nat} {fa : List Fa} {fn : List DefD} {xs : List (PySem.W.Frag → Bool)} {ini : List IniD} {g : Addr → Option Obj} {s : Shared} (h : ∀ a, g a = s.heap.get? a) : obsXG n fa fn xs ini g = (hookX n fa fn xs ini).obs s := by
  have e : g = s.heap.get? := funext h
  rw [e] <;> rfl
section
variable {fa : List Fa} {fn : List DefD} {xs : List (PySem.W.Frag → Bool)} {ini : List IniD} {K : PySem.W.Frag}
theorem SaysX.d (c : SaysX fa fn xs ini K) : SaysD fa fn K := by
  have h1 := (ba (show (((fa.all fun f => f.ok K) && fn.all fun d => d.ok K) && (xs.all (fun x => x K) && ini.all fun d => d.ok K)) = true from congrArg (fun z : AlX => z.1) c)).1
  have h2 : fn.map (fun d => fnW K d.at_) = fn.map DefD.val := congrArg (fun z : AlX => z.2.1) c
  show ((fa.all fun f => f.ok K) && fn.all fun d => d.ok K, fn.map fun d => fnW K d.at_) = (true, fn.map DefD.val)
  rw [h1, h2]
theorem SaysX.x (c : SaysX fa fn xs ini K) (i : Nat) {x : PySem.W.Frag → Bool} (h : xs[i]? = some x := by rfl) : x K = true := by
  have h1 := (ba (ba (show (((fa.all fun f => f.ok K) && fn.all fun d => d.ok K) && (xs.all (fun x => x K) && ini.all fun d => d.ok K)) = true from congrArg (fun z : AlX => z.1) c)).2).1
  exact List.all_eq_true.mp h1 x (List.mem_of_getElem? h)
theorem codB_ok {file qual : Str} {v : Value} (h : codB K file qual v = true) : ∃ cda, v = .ref cda ∧ PySem.W.codeIn K (.ref cda) qual = true ∧ ∃ (ccl : Value) (cdd : Option Addr) (vs : Array Value) (ccs : Array (Option Value)) (f : Str) (tf : Tok), K.lookup cda = some ⟨ccl, cdd, .fields vs, ccs⟩ ∧ vs[2]? = some (.str f tf) ∧ (file == f) = true := by
  unfold codB at h
  split at h
  · rename_i cda
    obtain ⟨h1, h2⟩ := ba h
    split at h2
    · rename_i vs sl hl
      split at h2
      · rename_i f tf hv
        exact ⟨_, rfl, h1, _, _, _, _, f, tf, hl, hv, h2⟩
      · cases h2
    · cases h2
  · cases h
theorem cloB_ok {D : Addr} {l : List (Str × Addr)} (h : cloB K D l = true) : ∃ p, l = [p] ∧ ∃ (cl : Value) (cld : Option Addr) (csl : Array (Option Value)), K.lookup p.2 = some ⟨cl, cld, .cell (some (.ref D)), csl⟩ := by
  unfold cloB at h
  split at h
  · rename_i p
    split at h
    · rename_i cl cld E csl hl
      exact ⟨p, rfl, _, _, _, by rw [hl, of_decide_eq_true h]⟩
    · cases h
  · cases h
theorem nonB_ok {v : Value} (h : nonB v = true) : v = .none := by
  cases v <;> first | rfl | cases h
theorem SaysX.txt (c : SaysX fa fn xs ini K) {P : Program} (i : Nat) {d : IniD} (h : ini[i]? = some d) {p1 p2 q1 q2 q3 q4 q5 q6 q7 q8 q9 q10 : Pos} (hp : d.params = SEX.iA p1 p2) (hb : d.body = SEX.iB q1 q2 q3 q4 q5 q6 q7 q8 q9 q10) (hs : d.scope = SEX.iS) (hf : d.file = P.main.file) (hq : (q3.endLine == q5.line) = true)
    (top : (P.main.scope.names.lookup ("super" : Str)).isSome = false) (op : PySem.W.nsIn K cStatics "thirdparty.any" = some none) : SEX.SeTxt P K d.qual (ga K d.x) (fAd K (d.x, some "__init__")) := by
  have h1 := (ba (ba (show (((fa.all fun f => f.ok K) && fn.all fun d => d.ok K) && (xs.all (fun x => x K) && ini.all fun d => d.ok K)) = true from congrArg (fun z : AlX => z.1) c)).2).2
  have h2 := List.all_eq_true.mp h1 d (List.mem_of_getElem? h)
  have e : ini.map (fun d => fnI K d.x) = ini.map IniD.val := congrArg (fun z : AlX => z.2.2) c
  have e2 : (ini.map fun d => fnI K d.x)[i]? = (ini.map IniD.val)[i]? := by rw [e]
  rw [List.getElem?_map, List.getElem?_map, h] at e2
  have e3 : fnI K d.x = d.val := Option.some.inj e2
  unfold IniD.ok at h2
  unfold fnI at e3
  cases q : K.lookup (fAd K (d.x, some "__init__")) with
  | none =>
    rw [q] at h2
    cases h2
  | some o =>
    obtain ⟨oc, od, dt, osl⟩ := o
    rw [q] at h2 e3
    cases dt with
    | func fd =>
      obtain ⟨n1, n2, n3, n4, n5, n6, n7, n8, n9, n10, n11, n12, n13, n14, n15⟩ := fd
      have e4 : (some (n1, n2, n3, n4, n5, n6, n7.map (·.1), n15) : FnI) = (some (("__init__" : Str), d.qual, d.params, .stmts d.body, d.scope, mainGlobals, [("__class__" : Str)], builtinsNs) : FnI) := e3
      simp only [Option.some.injEq, Prod.mk.injEq] at e4
      obtain ⟨g1, g2, g3, g4, g5, g6, g7, g8⟩ := e4
      have h3 : (codB K d.file d.qual n13 && (cloB K (ga K d.x) n7 && (nonB n8 && (nonB n9 && (PySem.W.clsIn K (ga K d.x)).isSome)))) = true := h2
      obtain ⟨k1, k2⟩ := ba h3
      obtain ⟨k3, k4⟩ := ba k2
      obtain ⟨k5, k6⟩ := ba k4
      obtain ⟨k7, k8⟩ := ba k6
      obtain ⟨cda, rfl, hc, hfile⟩ := codB_ok k1
      obtain ⟨p, rfl, hcl⟩ := cloB_ok k3
      obtain ⟨y, cc⟩ := p
      have hy : y = "__class__" := by simpa using g7
      subst hy
      rw [nonB_ok k5, nonB_ok k7] at q
      rw [hp] at g3
      rw [hb] at g4
      rw [hs] at g5
      rw [hf] at hfile
      subst g1 g2 g3 g4 g5 g6 g8
      exact ⟨⟨oc, od, n10, n11, n12, cda, cc, n14, osl, p1, p2, q1, q2, q3, q4, q5, q6, q7, q8, q9, q10, hq, q, hc, hfile, hcl⟩, k8, top, op⟩
    | _ => cases h2
end
/-! ### facts of classes -/
section
variable {K : PySem.W.Frag}
def excB (K : PySem.W.Frag) (D : Addr) : Bool := eqO (PySem.W.findIn K (.ref D) "__getattribute__") (some (some (.builtin "BaseException.__getattribute__"))) && (eqO (PySem.W.findIn K (.ref D) "__getattr__") (some none) && (decide (PySem.W.subIn K (.ref D) (.type "BaseException") = some true) && (PySem.W.hasDictIn K D && (eqO (PySem.W.findIn K (.ref D) "__class__") (some (some (.builtin "object.__class__"))) && (eqO (PySem.W.specialIn K (.builtin "object.__class__") "__get__") (some (some (.builtin "getset_descriptor.__get__"))) && (decide (PySem.W.takesIn K (.builtin "object.__class__") = some true) && decide (PySem.W.mroIn K D (.type "object") = some true)))))))
theorem excB_ok {D : Addr} (h : excB K D = true) : ExcC K D := by
  obtain ⟨h1, h⟩ := ba h
  obtain ⟨h2, h⟩ := ba h
  obtain ⟨h3, h⟩ := ba h
  obtain ⟨h4, h⟩ := ba h
  obtain ⟨h5, h⟩ := ba h
  obtain ⟨h6, h⟩ := ba h
  obtain ⟨h7, h⟩ := ba h
  exact ⟨eqO_ok h1, eqO_ok h2, of_decide_eq_true h3, h4, eqO_ok h5, eqO_ok h6, of_decide_eq_true h7, of_decide_eq_true h⟩
open DL
def cardB (nm : Str) (K : PySem.W.Frag) : Bool := xfB K (ga K nm) && (excB K (ga K nm) && ((PySem.W.clsIn K (ga K nm)).isSome && (eqO (PySem.W.findIn K (.ref (ga K nm)) "value") (some none) && ((CLs K).all (fun q => decide (PySem.W.kitOne K (.ref (ga K nm)) (.ref q.2) = some (subN nm q.1))) &&
  (CLs K).all (fun q => !decide (PySem.W.subIn K (.ref q.2) (.type "BaseException") = some true) || decide (PySem.W.exmOne K (.ref (ga K nm)) (.ref q.2) = some (subN nm q.1)))))))
theorem cardB_ok {nm : Str} (h : cardB nm K = true) : Card K nm (ga K nm) := by
  obtain ⟨h1, h⟩ := ba h
  obtain ⟨h2, h⟩ := ba h
  obtain ⟨h3, h⟩ := ba h
  obtain ⟨h4, h⟩ := ba h
  obtain ⟨h5, h6⟩ := ba h
  refine ⟨⟨xfB_ok h1, excB_ok h2, h3⟩, eqO_ok h4, fun q hq => of_decide_eq_true (List.all_eq_true.mp h5 q hq), fun q hq hb => ?_⟩
  have := List.all_eq_true.mp h6 q hq
  rw [hb] at this
  simpa using this
/-- nm is a class of the module; no plain value is of it -/
def clsB (nm : Str) (K : PySem.W.Frag) : Bool := (CLs K).any (fun q => decide (q.1 = nm) && decide (q.2 = ga K nm)) && (["NoneType", "bool", "int", "str", "list", "tuple", "dict", "function"] : List String).all fun T => decide (PySem.W.kitOne K (.type T) (.ref (ga K nm)) = some false)
theorem clsB_ok {h : Heap} {mg : Str → Option Value} {nm : Str} (X : K.In h) (G : h.Ns mainGlobals mg) (g : (Fa.glo nm).ok K = true) (c : clsB nm K = true) : ClsOf K mg nm (ga K nm) := by
  obtain ⟨h1, h2⟩ := ba c
  obtain ⟨q, hq, h3⟩ := List.any_eq_true.mp h1
  obtain ⟨h4, h5⟩ := ba h3
  have e : q = (nm, ga K nm) := Prod.ext (of_decide_eq_true h4) (of_decide_eq_true h5)
  exact ⟨glo_ok X G g, e ▸ hq, fun T hT => of_decide_eq_true (List.all_eq_true.mp h2 T hT)⟩
def sysB (K : PySem.W.Frag) : Bool := match K.lookup sysModules with
  | some ⟨.type c, _, _, _⟩ => decide (c = "dict")
  | _ => false
theorem sysB_ok (h : sysB K = true) : SysD K := by
  unfold sysB at h
  split at h
  · rename_i c dd dt sl hl
    exact ⟨_, hl, by rw [of_decide_eq_true h]⟩
  · cases h
/-- x is a def of the module -/
def fnvB (x : Str) (K : PySem.W.Frag) : Bool := eqO (PySem.W.nsIn K mainGlobals x) (some (some (.ref (ga K x)))) && decide (PySem.W.typeIn K (.ref (ga K x)) = some (.type "function"))
theorem fnv_of {h : Heap} {mg : Str → Option Value} {x : Str} (X : K.In h) (G : h.Ns mainGlobals mg) (g : (Fa.glo x).ok K = true) (c : fnvB x K = true) : FnV K mg x := by
  obtain ⟨h1, h2⟩ := ba c
  exact ⟨ga K x, glo_ok X G g, eqO_ok h1, of_decide_eq_true h2⟩
def baseB (nm : Str) (K : PySem.W.Frag) : Bool := decide (PySem.W.subIn K (.ref (ga K nm)) (.type "BaseException") = some true)
theorem baseB_ok {nm : Str} (h : baseB nm K = true) : PySem.W.subIn K (.ref (ga K nm)) (.type "BaseException") = some true := of_decide_eq_true h
/-- a class that is raised -/
def slotB : List (Option Value) → Bool
  | [_, _, _, _, some (.builtin i), _] => decide (i = "ValueError.__new__")
  | _ => false
def shapeB (K : PySem.W.Frag) (C : Addr) : Bool := match K.lookup C with
  | some ⟨.type t, _, .cls ⟨_, _, .ref m :: bm, _, _, true, _, _, _, _, false⟩, sl⟩ => decide (t = "type") && (decide (m = C) && (PySem.HandSPX.refsVE bm && slotB sl.toList))
  | _ => false
theorem slotB_ok {l : List (Option Value)} (h : slotB l = true) : ∃ k0 k1 k2 k3 k5, l = [k0, k1, k2, k3, some (.builtin "ValueError.__new__"), k5] := by
  unfold slotB at h
  split at h
  · rename_i k0 k1 k2 k3 i k5
    rw [of_decide_eq_true h]
    exact ⟨_, _, _, _, _, rfl⟩
  · cases h
theorem shapeB_ok {C : Addr} (h : shapeB K C = true) : ∃ nm q N bs bm sn sub ab col dd k0 k1 k2 k3 k5, K.lookup C = some (excClassObj nm q C N bs bm true sn sub ab col dd k0 k1 k2 k3 k5 "ValueError.__new__") ∧ PySem.HandSPX.refsVE bm = true := by
  unfold shapeB at h
  split at h
  · rename_i t dd nm bs m bm N q sn sub ab col sl hl
    obtain ⟨h1, h2⟩ := ba h
    obtain ⟨h3, h4⟩ := ba h2
    obtain ⟨h5, h6⟩ := ba h4
    have e1 := of_decide_eq_true h1
    have e2 := of_decide_eq_true h3
    subst e1 e2
    obtain ⟨k0, k1, k2, k3, k5, e3⟩ := slotB_ok h6
    refine ⟨nm, q, N, bs, bm, sn, sub, ab, col, dd, k0, k1, k2, k3, k5, ?_, h5⟩
    rw [hl]
    have e4 : sl = #[k0, k1, k2, k3, some (.builtin "ValueError.__new__"), k5] := by
      apply Array.toList_inj.mp
      rw [e3]
    rw [e4]
  · cases h
def raB (top nm : Str) (K : PySem.W.Frag) : Bool := shapeB K (ga K nm) && (eqO (PySem.W.findIn K (.ref (ga K nm)) "__setattr__") (some (some (.builtin "object.__setattr__"))) && (eqO (PySem.W.findIn K (.ref (ga K nm)) "value") (some none) &&
  (eqO (PySem.W.findIn K (.ref (ga K nm)) "__init__") (some (some (.ref (fAd K (top, some "__init__"))))) && (decide (PySem.W.typeIn K (.ref (fAd K (top, some "__init__"))) = some (.type "function")) && (PySem.W.keepIn K (.ref (ga K nm)) && (decide (PySem.W.subIn K (.ref (ga K nm)) (.type "BaseException") = some true) &&
  (decide (PySem.W.subIn K (.ref (ga K nm)) (.type "ValueError") = some true) && (decide (PySem.W.typeIn K (.ref (ga K nm)) = some (.type "type")) && (decide (PySem.W.mroIn K (ga K nm) (.ref (ga K top)) = some true) && (eqO (PySem.W.ks_superIn K (ga K nm) (ga K top) "__init__") (some (some (.builtin "ValueError.__init__"))) && cardB nm K))))))))))
theorem raB_ok {top nm : Str} (h : raB top nm K = true) : SEX.SeCls K (ga K top) (fAd K (top, some "__init__")) (ga K nm) ∧ Card K nm (ga K nm) := by
  obtain ⟨h1, h⟩ := ba h
  obtain ⟨h2, h⟩ := ba h
  obtain ⟨h3, h⟩ := ba h
  obtain ⟨h4, h⟩ := ba h
  obtain ⟨h5, h⟩ := ba h
  obtain ⟨h6, h⟩ := ba h
  obtain ⟨h7, h⟩ := ba h
  obtain ⟨h8, h⟩ := ba h
  obtain ⟨h9, h⟩ := ba h
  obtain ⟨h10, h⟩ := ba h
  obtain ⟨h11, h12⟩ := ba h
  exact ⟨⟨shapeB_ok h1, eqO_ok h2, eqO_ok h3, eqO_ok h4, of_decide_eq_true h5, h6, of_decide_eq_true h7, of_decide_eq_true h8, of_decide_eq_true h9, of_decide_eq_true h10, eqO_ok h11⟩, cardB_ok h12⟩
theorem raC_of {P : Program} {h : Heap} {mg : Str → Option Value} {top nm qual : Str} (X : K.In h) (G : h.Ns mainGlobals mg) (T : SEX.SeTxt P K qual (ga K top) (fAd K (top, some "__init__"))) (hs : mg "super" = none) (g : (Fa.glo nm).ok K = true) (c : raB top nm K = true) : RaC P K mg nm :=
  ⟨ga K nm, ga K top, fAd K (top, some "__init__"), qual, T, (raB_ok c).1, glo_ok X G g, hs, (raB_ok c).2⟩
def opB (K : PySem.W.Frag) : Bool := eqO (PySem.W.nsIn K cStatics "thirdparty.any") (some none)
theorem opB_ok (h : opB K = true) : PySem.W.nsIn K cStatics "thirdparty.any" = some none := eqO_ok h
/-- a constant tuple of plain values -/
theorem gval_of {h : Heap} {mg : Str → Option Value} {x : Str} {vs : List Dv} {ds : List D} (X : K.In h) (G : h.Ns mainGlobals mg) (g : (Fa.glo x).ok K = true) (c : tupB K x vs = true) (r : ∀ H, RpAll K H (vs.map (Dv.v K)) ds) : GVal K mg x (.tuple ds) :=
  ⟨ga K x, glo_ok X G g, fun H => .tup (tupB_ok c H) (r H)⟩
end
end HX
/-! BR: repr of lists and tuples with far numbers (up to 2 ** 12900). -/
namespace DL
open PySem PySem.Spec PyProof.Rows L2
mutual
def bigOk : D → Bool
  | .none | .bool _ | .str _ => true
  | .int i => decide (i.natAbs.log2 < 12900)
  | .list xs => bigOks xs
  | .tuple xs => bigOks xs
  | .dict _ => false
def bigOks : List D → Bool
  | [] => true
  | x :: xs => bigOk x && bigOks xs
end
theorem far_fits {i : Int} (h : i.natAbs.log2 < 12900) : i.natAbs < 10 ^ 4300 := by
  have h1 := lt_of_log2 h
  have h2 := pow_lo
  generalize (10 : Nat) ^ 4300 = P at *
  generalize (2 : Nat) ^ 12900 = R at *
  omega
/-- the statics' dict of the written part says nothing of digits -/
def DigD (K : PySem.W.Frag) : Prop := ∀ h : Heap, K.In h → h.NoDigits
def strK : Value → Bool
  | .str _ _ => true
  | _ => false
def digB (K : PySem.W.Frag) : Bool := match K.lookup cStatics with
  | some ⟨_, _, .dict es _, _⟩ => (es.all fun z => strK z.key) && (nsFind es "sys.int_max_str_digits").isNone
  | _ => false
theorem digB_ok {K : PySem.W.Frag} (h : digB K = true) : DigD K := by
  intro hp X
  unfold digB at h
  split at h
  · rename_i c dd es ep sl hl
    obtain ⟨h1, h2⟩ := Bool.and_eq_true_iff.mp h
    refine ⟨nsFind es, ⟨_, es, ep, X _ _ hl, rfl, fun z hz => ?_, fun _ => rfl⟩, Option.isNone_iff_eq_none.mp h2⟩
    have := Array.all_eq_true_iff_forall_mem.mp h1 z hz
    revert this
    cases z.key <;> intro t <;> first | exact ⟨_, _, rfl⟩ | cases t
  · cases h
section
variable {prog : Program} {w : World} {h₀ : Heap}
theorem far_call {A : Around} {E : Value → Shared → Prop} {s : Shared} {i : Int} {t : Tok} {Q : Value → Shared → Prop} (hn : s.heap.NoDigits) (hf : i.natAbs.log2 < 12900) (h : Q (.str (toString i) s.toks) { s with toks := s.toks + 1 }) :
    wpAny (model prog w) A (call (.builtin "int.__repr__") [.int i t]) Q E s := by
  apply wpAny_call_entry (hT := typeIs_int s i t) F.slot_int_repr (hb := F.entry_int_repr) (ha := F.args_int_repr_1 _)
  unfold Builtin.«int.__repr__»
  change wpAny _ _ (Bind.bind (Builtin.overDigitLimit? i) _) _ _ s
  have hlt := far_fits hf
  have hfit := int_text_fits10 hlt
  refine wpAny_bind (overDigitLimit_any hn ?_ ?_)
  · intro _
    exact wpAny_bind (wpAny_mkStr (wpAny_pure ⟨_, rfl, h⟩) hfit)
  · intro h2
    exact (Nat.not_lt.mpr h2 hlt).elim
theorem far_k {as : List Addr} {d : Nat} {i : Int} {t : Tok} (hn : h₀.NoDigits) (hf : i.natAbs.log2 < 12900) : ReprK prog w as h₀ d (.int i t) (toString i) := by
  intro base hb A g E s Q hg hcl hu hk hQ
  have hb' : base ≤ sizeLine := Nat.le_trans (Nat.le_add_right ..) hb
  have hu' : A.units < cLine := Nat.lt_of_le_of_lt (Nat.le_add_right ..) hu
  rw [pyReprUnder_leaf (v := .int i t) hb' (fun _ e => nomatch e)]
  unfold pyRepr
  exact wpAny_bind (wpAny_pyReprObj_slot hu' (typeIs_int s i t) F.slot_int_repr.toG (far_call (hn.keeps hk) hf ⟨_, _, rfl, wpAny_pure (hQ s.heap _ fun _ _ e => e)⟩))
theorem upTo {a : Addr} {d : D} {as bs : List Addr} {n : Nat} (r : Reads h₀ (.ref a) d as) (e : d.depth = n + 1) (hb : ReadAtMost h₀ n bs) : a ∉ bs ∧ ReadAtMost h₀ (n + 1) (a :: bs) :=
  ⟨not_mem_of_deeper r (by omega) hb, e ▸ ReadAtMost.cons r (by omega) hb⟩
/-- what is shown of a value that is read -/
def FarV (prog : Program) (w : World) (h₀ : Heap) (v : Value) (d : D) : Prop := bigOk d = true → d.shown.length ≤ sizeLine → ∃ bs, ReadAtMost h₀ d.depth bs ∧ ReprK prog w bs h₀ d.depth v d.shown
def FarVs (prog : Program) (w : World) (h₀ : Heap) (vs : List Value) (ds : List D) : Prop := bigOks ds = true → (∀ t ∈ PyData.shownAll ds, t.length ≤ sizeLine) →
  ∃ bs, ReadAtMost h₀ (PyData.depthAll ds) bs ∧ ReprAllK prog w bs h₀ (PyData.depthAll ds) vs (PyData.shownAll ds)
theorem dep_l {xs : List D} : (PyData.list xs).depth = PyData.depthAll xs + 1 := by simp only [PyData.depth]
theorem dep_t {xs : List D} : (PyData.tuple xs).depth = PyData.depthAll xs + 1 := by simp only [PyData.depth]
theorem ok_l {xs : List D} (h : bigOk (.list xs) = true) : bigOks xs = true := by unfold bigOk at h; exact h
theorem ok_t {xs : List D} (h : bigOk (.tuple xs) = true) : bigOks xs = true := by unfold bigOk at h; exact h
theorem far_lst {a : Addr} {o : Obj} {vs : Array Value} {n : Nat} {xs : List D} {as : List Addr} (g1 : h₀.get? a = some o) (g2 : o.cls = .type "list") (g3 : o.data = .seq vs n) (g4 : ReadsAll h₀ vs.toList xs as) (ih : FarVs prog w h₀ vs.toList xs) : FarV prog w h₀ (.ref a) (.list xs) := by
  intro ok hz
  have r := Reads.list g1 g2 g3 g4
  rw [PyData.shown] at hz ⊢
  obtain ⟨bs, hb, k⟩ := ih (ok_l ok) fun t m => Nat.le_trans (listText_mem_le m) hz
  obtain ⟨n1, n2⟩ := upTo r dep_l hb
  rw [dep_l]
  refine ⟨_, n2, ?_⟩
  obtain ⟨l⟩ := vs
  cases l with
  | nil =>
    have z : ReadsAll h₀ [] xs _ := g4
    cases z
    rw [PyData.shownAll, listText_nil]
    exact ReprK.listEmpty g1 g2 g3
  | cons x l => exact ReprK.list g1 g2 g3 n1 (by simpa using k.length_eq) fun i y e => k.item i y (by simpa using e)
theorem far_tup {a : Addr} {o : Obj} {vs : Array Value} {n : Nat} {xs : List D} {as : List Addr} (g1 : h₀.get? a = some o) (g2 : o.cls = .type "tuple") (g3 : o.data = .seq vs n) (g4 : ReadsAll h₀ vs.toList xs as) (ih : FarVs prog w h₀ vs.toList xs) : FarV prog w h₀ (.ref a) (.tuple xs) := by
  intro ok hz
  have r := Reads.tuple g1 g2 g3 g4
  rw [PyData.shown] at hz ⊢
  obtain ⟨bs, hb, k⟩ := ih (ok_t ok) fun t m => Nat.le_trans (tupleText_mem_le m) hz
  obtain ⟨n1, n2⟩ := upTo r dep_t hb
  rw [dep_t]
  exact ⟨_, n2, ReprK.tuple g1 g2 g3 n1 k⟩
theorem far_cons {v : Value} {vs : List Value} {d : D} {ds : List D} (i1 : FarV prog w h₀ v d) (i2 : FarVs prog w h₀ vs ds) : FarVs prog w h₀ (v :: vs) (d :: ds) := by
  intro ok hz
  have ok' : bigOk d = true ∧ bigOks ds = true := by
    unfold bigOks at ok
    exact Bool.and_eq_true_iff.mp ok
  rw [PyData.shownAll] at hz ⊢
  obtain ⟨b1, m1, k1⟩ := i1 ok'.1 (hz _ List.mem_cons_self)
  obtain ⟨b2, m2, k2⟩ := i2 ok'.2 fun t m => hz t (List.mem_cons_of_mem _ m)
  rw [PyData.depthAll]
  exact ⟨b1 ++ b2, (m1.mono (Nat.le_max_left ..)).append (m2.mono (Nat.le_max_right ..)),
    .cons ((k1.more fun b m => List.mem_append_left _ m).level_le (Nat.le_max_left ..)) (k2.more_le (fun b m => List.mem_append_right _ m) (Nat.le_max_right ..))⟩
theorem far_leaf {v : Value} {d : D} (h : d.shown.length ≤ sizeLine → ReprIs prog w v d.shown) : FarV prog w h₀ v d := fun _ hz => ⟨[], nofun, ReprK.of_is (h hz) [] h₀ d.depth⟩
theorem far_nil : FarVs prog w h₀ [] [] := by
  intro _ _
  rw [PyData.shownAll]
  exact ⟨[], nofun, .nil⟩
theorem far_int {i : Int} {t : Tok} (hn : h₀.NoDigits) : FarV prog w h₀ (.int i t) (.int i) := by
  intro ok _
  rw [PyData.shown]
  unfold bigOk at ok
  exact ⟨[], nofun, far_k hn (of_decide_eq_true ok)⟩
theorem far_none : FarV prog w h₀ .none .none := far_leaf fun _ => by rw [PyData.shown]; exact .none
theorem far_bool {b : Bool} : FarV prog w h₀ (.bool b) (.bool b) := far_leaf fun _ => by rw [PyData.shown]; exact .bool b
theorem far_str {x : Str} {t : Tok} : FarV prog w h₀ (.str x t) (.str x) := far_leaf fun hz => by
  rw [PyData.shown] at hz ⊢
  exact .str x t hz
theorem far_dct {v : Value} {kvs : List (D × D)} : FarV prog w h₀ v (.dict kvs) := fun ok _ => by
  unfold bigOk at ok
  cases ok
theorem far_all (hn : h₀.NoDigits) {vs : List Value} {ds : List D} {as : List Addr} (r : ReadsAll h₀ vs ds as) : FarVs prog w h₀ vs ds :=
  ReadsAll.rec (motive_1 := fun v d _ _ => FarV prog w h₀ v d) (motive_2 := fun vs ds _ _ => FarVs prog w h₀ vs ds) far_none (fun _ => far_bool) (fun _ _ => far_int hn) (fun _ _ => far_str)
    (fun g1 g2 g3 g4 ih => far_lst g1 g2 g3 g4 ih) (fun g1 g2 g3 g4 ih => far_tup g1 g2 g3 g4 ih) (fun _ _ _ _ _ _ _ => far_dct) far_nil (fun _ _ i1 i2 => far_cons i1 i2) r
theorem far_repr {A : Around} {E : Value → Shared → Prop} {s : Shared} {a : Addr} {d : D} {as : List Addr} {Q : Value → Shared → Prop} (hn : s.heap.NoDigits) (r : Reads s.heap (.ref a) d as) (ok : bigOk d = true) (hz : d.shown.length ≤ sizeLine)
    (hg : A.guards = some []) (hu : A.units + (d.depth + 1) < cLine) (hQ : ∀ h' u tk, (∀ b o, s.heap.get? b = some o → h'.get? b = some o) → Q (.str d.shown u) { s with heap := h', toks := tk }) :
    wpAny (model prog w) A (call (.builtin "repr") [.ref a]) Q E s := by
  cases r with
  | list g1 g2 g3 g4 =>
    rename_i o vs n xs bs₀
    have r := Reads.list g1 g2 g3 g4
    rw [PyData.shown] at hz hQ
    obtain ⟨bs, hb, k⟩ := far_all (prog := prog) (w := w) hn g4 (ok_l ok) fun t m => Nat.le_trans (listText_mem_le m) hz
    have e := dep_l (xs := xs)
    obtain ⟨n1, n2⟩ := upTo r e hb
    rw [e] at hu
    refine call_repr_slot (by omega) ⟨o, g1, g2⟩ F.slot_list_repr.toG ?_
    have hu' : A.in1.units + (PyData.depthAll xs + 1) < cLine := by show A.units + 1 + _ < cLine; omega
    obtain ⟨l⟩ := vs
    cases l with
    | nil =>
      have z : ReadsAll s.heap [] xs _ := g4
      cases z
      rw [PyData.shownAll, listText_nil] at hQ
      exact call_list_repr_empty ⟨o, g1, g2⟩ g1 g3 ⟨_, _, rfl, hQ s.heap _ _ fun _ _ e => e⟩
    | cons x l => exact call_list_reprK g1 g2 g3 n1 (by simpa using k.length_eq) (fun i y e => k.item i y (by simpa using e)) hg (fun b _ => Clear.nil b) hu' (fun _ _ e => e) (fun h' u tk k => ⟨_, _, rfl, hQ h' u tk k⟩) hz
  | tuple g1 g2 g3 g4 =>
    rename_i o vs n xs
    have r := Reads.tuple g1 g2 g3 g4
    rw [PyData.shown] at hz hQ
    obtain ⟨bs, hb, k⟩ := far_all (prog := prog) (w := w) hn g4 (ok_t ok) fun t m => Nat.le_trans (tupleText_mem_le m) hz
    have e := dep_t (xs := xs)
    obtain ⟨n1, n2⟩ := upTo r e hb
    rw [e] at hu
    refine call_repr_slot (by omega) ⟨o, g1, g2⟩ F.slot_tuple_repr ?_
    have hu' : A.in1.units + (PyData.depthAll xs + 1) < cLine := by show A.units + 1 + _ < cLine; omega
    exact call_tuple_reprK g1 g2 g3 n1 k hg (fun b _ => Clear.nil b) hu' (fun _ _ e => e) (fun h' u tk k => ⟨_, _, rfl, hQ h' u tk k⟩) hz
  | dict =>
    unfold bigOk at ok
    cases ok
end
section
variable {X : Cx} {pins : List (Addr × Obj)} {σ : L2.St} {H : Hp} {s : Shared}
def rBig (d : D) : Bool := bigOk d && noF d && decide (d.depth ≤ 100) && decide (d.shown.length ≤ sizeLine)
def isSeq : D → Bool
  | .list _ | .tuple _ => true
  | _ => false
def rReprB (K : PySem.W.Frag) : List V → Hp → VK → Prop := fun xs H Q => ∃ x d, xs = [x] ∧ Rp K H x d ∧ (rG d = true ∨ (isSeq d = true ∧ rBig d = true)) ∧ Q (.str d.shown) H
theorem call_reprB (rm : Rm X) (S : SysD X.K) (G : DigD X.K) : CallR X (.builtin "repr") (rReprB X.K) := by
  intro pins s σ H xs us Q I r h
  obtain ⟨x, d, rfl, rx, ok, q⟩ := h
  rcases ok with ok | ⟨sq, ok⟩
  · exact call_reprG rm S _ _ _ _ _ _ _ I r ⟨x, d, rfl, rx, ok, q⟩
  unfold rBig at ok
  simp only [Bool.and_eq_true, decide_eq_true_eq] at ok
  obtain ⟨⟨⟨o1, o2⟩, o3⟩, o4⟩ := ok
  have go : ∀ (a : Addr), x = .ref a → wpAny (model X.prog X.w) X.A (call (.builtin "repr") us) (EP X pins σ Q) X.xe s := by
    intro a ea
    subst ea
    obtain ⟨u, rfl, ru⟩ := vals1 r
    obtain ⟨as, rd, _⟩ := Rp.reads2 I S rx o2 _ ru
    cases ru
    exact far_repr (G _ I.kIn) rd o1 o4 rm.gd (by have := rm.un; omega) fun h' u tk k => ⟨.str _, H, I.kept k, ⟨_, rfl⟩, q⟩
  cases rx with
  | lst _ _ => exact go _ rfl
  | tup _ _ => exact go _ rfl
  | dct _ _ _ => exact go _ rfl
  | fn _ => exact go _ rfl
  | _ => cases sq
def dReprB : List D → Option Rv
  | [d] => if (rG d || (isSeq d && rBig d)) = true then some (.dat (.str d.shown)) else none
  | _ => none
theorem reprBS {K : PySem.W.Frag} : CaS K (rReprB K) dReprB := by
  intro O cs H vs ds z Q w hp g p
  match ds, g, hp with
  | [d], g, hp =>
    obtain ⟨x, rfl, sx⟩ := Paired.one hp
    obtain ⟨hz, rfl⟩ := ite_some g
    simp only [Bool.or_eq_true, Bool.and_eq_true] at hz
    refine ⟨x, d, rfl, sx.rp, hz, post_str w ?_ p⟩
    rcases hz with hz | ⟨_, hz⟩
    · unfold rG at hz
      simp only [Bool.and_eq_true, decide_eq_true_eq] at hz
      exact hz.2
    · unfold rBig at hz
      simp only [Bool.and_eq_true, decide_eq_true_eq] at hz
      exact hz.2
theorem xe_reprB {e : Expr} {fa : MA} {p pos : Pos} (rm : Rm X) (S : SysD X.K) (G : DigD X.K) (hg : Gl X "repr") (hm : X.mg "repr" = none) (ha : XA X fa [e])
    (he : starEach [e] X.env = (false, eval e X.env) :: starEach [] X.env := by rfl) : XE X (mCall dReprB fa) (.Call (.Name "repr" p) [e] [] pos) :=
  xe_callB (call_reprB rm S G) reprBS hg hm (by decide +kernel) ha (he := he)
end
theorem repr_okB {d : D} (h : rG d = true) : dReprB [d] = some (.dat (.str d.shown)) := if_pos (by rw [h]; rfl)
theorem repr_okB2 {d : D} (h : isSeq d = true) (h2 : rBig d = true) : dReprB [d] = some (.dat (.str d.shown)) := if_pos (by rw [h, h2]; simp)
end DL
/-! CO: a call that is handed a fresh list, to be changed in place; its result is data. -/
namespace DL
open PySem PySem.Spec PyProof.Rows L2
section
variable {X : Cx}
def mCallO (n : Nat) (m : MF) (fa : MA) : ME := fun ρ cs => (fa ρ cs).bind fun p => if p.1.length = n then (m p.1 p.2).bind fun q => match q.1 with
  | .dat d => some (.dat d, q.2.take cs.length)
  | _ => none
  else none
theorem xe_callO {k : Nat} {f : Addr} {fd : FuncData} {ps : List Str} {m : MF} {x : Str} {e : Expr} {es : List Expr} {fa : MA} {p pos : Pos} (F : FnD X.prog X.w X.K X.mg X.base k f fd ps m) (hr : Room k X.A) (rm : Rm X) (hg : Gl X x) (hm : X.mg x = some (.ref f)) (hk : PySem.W.keepIn X.K (.ref f) = true)
    (hb : Binds X.K fd ps []) (ha : XAo X fa (e :: es)) (hdb : (x == ("__debug__" : Str)) = false := by decide)
    (he : starEach (e :: es) X.env = (false, eval e X.env) :: starEach es X.env := by rfl) (hpl : (backTo pos (starEach es X.env)).any (·.1) = false := by rfl) : XE X (mCallO ps.length m fa) (.Call (.Name x p) (e :: es) [] pos) := by
  refine ⟨fun pins s σ H Q I ⟨ρ, O, cs, r, cs', e0, en, w, pq⟩ => ?_⟩
  obtain ⟨⟨rs, cs1⟩, h1, h2⟩ := Option.bind_eq_some_iff.mp e0
  obtain ⟨hl, em'⟩ := ite_none h2
  obtain ⟨⟨r1, cs2⟩, em, h3⟩ := Option.bind_eq_some_iff.mp em'
  dsimp only at h3
  split at h3
  · rename_i d
    cases h3
    refine wpAny_Call_Name_kw (ld_glob I hg hm ?_ hdb)
    have hrun := ha.run pos pins s σ H (fun vs H' => ∃ O', Ext O.length O O' H ∧ Ch O H H' ∧ Wd X.K O' cs1 H' ∧ ArRs X.K O' H' rs vs) I ⟨ρ, O, cs, rs, cs1, h1, en, w, fun vs O' H' e c w' ra => ⟨O', e, c, w', ra⟩⟩
    refine PySem.W.callWith_K (h₀ := X.base) I.ok.mod.kin hk (thn hrun fun us s1 hus => ?_) he hpl
    obtain ⟨vs, H1, I1, rv, O', ex, c1, w1, ra⟩ := hus
    refine ⟨I1.kIn, ?_⟩
    have hb' := hb s1 us I1.kIn (by rw [List.append_nil, ← rv.length, ← ra.length]; exact hl)
    rw [List.append_nil] at hb'
    refine call_end F hr rm.gd rm.nd I1 hb' rv hl w1 ra em (fun v H' c' w' rr => ?_)
    have cc := c1.ext ex c'
    have ee : Ext cs.length O O' H := by rw [w.len]; exact ex
    obtain ⟨z1, z2⟩ := body_end (r := .dat d) w ee cc w' (r0 := .dat d) rr (.inl ⟨d, rfl, rfl⟩)
    exact pq v H' cc z1 z2
  · cases h3
def datOnly : Rv → Option D
  | .dat d => some d
  | _ => none
@[simp] theorem datOnly_dat {d : D} : datOnly (.dat d) = some d := rfl
@[simp] theorem ev_mCallO {n : Nat} {m : MF} {fr : MA} {ρ : Rho} {cs : Cs} {Q : Rv → Cs → Prop} : Ev (mCallO n m fr) ρ cs Q ↔ Ea fr ρ cs fun rs cs1 => rs.length = n ∧ Em m rs cs1 fun r cs2 => wpd (datOnly r) fun d => Q (.dat d) (cs2.take cs.length) := by
  unfold Ev Ea Em mCallO
  rw [wpo_bind]
  refine iff_of_eq (congrArg _ (funext fun x => funext fun cs1 => propext ?_))
  rw [wpo_ite]
  refine and_congr Iff.rfl ?_
  rw [wpo_bind]
  refine iff_of_eq (congrArg _ (funext fun r => funext fun cs2 => propext ?_))
  cases r <;> exact Iff.rfl
variable {k j : Nat} {x : Str} {st : Stmt} {ps : List Str} {m : MF}
theorem w_callO {n : Nat} {e : Expr} {es : List Expr} {fa : MA} {p pos : Pos} (C : Cal X.prog X.w X.K X.mg X.base j x st ps m) (hr : Room k X.A) (rm : Rm X) (ha : XAo X fa (e :: es)) (hj : j ≤ k := by decide) (hg : Gl X x := by rfl) (hdb : (x == ("__debug__" : Str)) = false := by decide)
    (he : starEach (e :: es) X.env = (false, eval e X.env) :: starEach es X.env := by rfl) (hpl : (backTo pos (starEach es X.env)).any (·.1) = false := by rfl) (hn : ps.length = n := by rfl) : XE X (mCallO n m fa) (.Call (.Name x p) (e :: es) [] pos) := by
  subst hn
  obtain ⟨f, fd, F, G, hm, hb⟩ := C.ex
  exact xe_callO G (hr.mono hj) rm hg hm F.kp hb ha hdb he hpl
end
end DL
namespace My
open PySem PySem.Spec PyProof.Rows L2 DL
def b__law_hash : MS :=
  (sSeq (sSet 2 (mB dMod (mCall dInt (aCons (mB dAdd (mB dAdd (mB dAdd (mB dMul (xVar 0) (xC (.int 1140671))) (mB dMul (mB dMul (xC (.int 27644437)) (xVar 1)) (xVar 1))) (mB dMul (xC (.int 131)) (xVar 1))) (xC (.int 19))) aNil)) (xC (.int 2147483629))))
  (sSeq (sSet 2 (mB dMod (mCall dInt (aCons (mB dAdd (mB dAdd (mB dMul (xVar 2) (xVar 2)) (mB dMul (xC (.int 62089)) (xVar 1))) (xC (.int 32416187))) aNil)) (xC (.int 2147483587))))
  (sRet (mB dMod (mCall dInt (aCons (mB dMul (xVar 2) (xC (.int 48271))) aNil)) (xC (.int 2147483647))))))
def m__law_hash : MF := fnM 3 b__law_hash
def b__law_cell : MS :=
  (sSeq (sIf (mTB (mB dLt (xVar 1) (mCall dLen (aCons (xVar 0) aNil)))) (sRet (mB dIx (xVar 0) (xVar 1))) sNil)
  (sRet (mB dMod (mCall dSum (aCons (mSl (xVar 0) oNone (oSome (xC (.int 1)))) aNil)) (xC (.int 1000003)))))
def m__law_cell : MF := fnM 2 b__law_cell
def b__law_generator : MS :=
  (sSeq (sSet 2 (mCallF 2 m__law_cell (aCons (xVar 0) (aCons (xVar 1) aNil))))
  (sRet (xLst (aCons (mB dMod (mCall dInt (aCons (mCall dMax2 (aCons (mB dSub (xVar 2) (mB dPow (xC (.int 10)) (xC (.int 18)))) (aCons (xC (.int 0)) aNil))) aNil)) (mB dPow (mB dPow (xC (.int 10)) (xC (.int 60))) (xC (.int 10)))) (aCons (mB dMod (mCall dInt (aCons (xVar 2) aNil)) (xC (.int 2147483647))) (aCons (mB dMul (xC (.int 1000)) (xVar 1)) aNil))))))
def m__law_generator : MF := fnM 3 b__law_generator
def b__law_random : MS :=
  (sSeq (sIf (mTB (mB dGt (mB dIx (xVar 0) (xC (.int 0))) (xC (.int 0)))) (sSeq (sSet 2 (mB dMod (mCall dInt (aCons (mB dIx (xVar 0) (xC (.int 0))) aNil)) (xVar 1)))
  (sSeq (sPut 0 (xC (.int 0)) (mB dDiv (mB dIx (xVar 0) (xC (.int 0))) (xVar 1)))
  (sRet (xVar 2)))) sNil)
  (sSeq (sSet 2 (xC (.int 0)))
  (sSeq (sFor (iRg1 (aCons (mB dAdd (xC (.int 1)) (mB dDiv (mU dBits (xVar 1)) (xC (.int 30)))) aNil)) (gNm 3) (sSeq (sPut 0 (xC (.int 2)) (mB dAdd (mB dIx (xVar 0) (xC (.int 2))) (xC (.int 1))))
  (sSet 2 (mB dAdd (mB dMul (xVar 2) (xC (.int 2147483587))) (mCallF 2 m__law_hash (aCons (mB dIx (xVar 0) (xC (.int 1))) (aCons (mB dIx (xVar 0) (xC (.int 2))) aNil)))))))
  (sRet (mB dMod (mCall dInt (aCons (xVar 2) aNil)) (xVar 1))))))
def m__law_random : MF := fnM 4 b__law_random
def b__law_pick : MS :=
  (sRet (mB dIx (xVar 1) (mCallF 2 m__law_random (aCons (xVar 0) (aCons (mCall dLen (aCons (xVar 1) aNil)) aNil)))))
def m__law_pick : MF := fnM 2 b__law_pick
end My
namespace My
open PySem PySem.Spec PyProof.Rows L2 DL
theorem log2_le {n a : Nat} (h : n < 2 ^ a) : n.log2 ≤ a := by
  by_cases h0 : n = 0
  · subst h0; exact Nat.zero_le _
  · exact Nat.le_of_lt ((Nat.log2_lt h0).mpr h)
theorem cml {i j : Int} (a b : Nat) (h1 : i.natAbs < 2 ^ a) (h2 : j.natAbs < 2 ^ b) (h : a + b < 100000000 := by decide) : CMl i j := by
  have := log2_le h1
  have := log2_le h2
  show _ + _ < _
  omega
theorem lg_mul {i j : Int} {a b : Nat} (h1 : i.natAbs < 2 ^ a) (h2 : j.natAbs < 2 ^ b) : (i * j).natAbs < 2 ^ (a + b) := by
  rw [Int.natAbs_mul, Nat.pow_add]
  exact Nat.mul_lt_mul'' h1 h2
theorem fmod_b {x m : Int} (hm : 0 < m) : 0 ≤ x.fmod m ∧ x.fmod m < m := ⟨Int.fmod_nonneg_of_pos x hm, Int.fmod_lt_of_pos x hm⟩
theorem abs_lt {x : Int} {a : Nat} (h0 : 0 ≤ x) (h1 : x < 2 ^ a) : x.natAbs < 2 ^ a := by
  have e : ((2 ^ a : Nat) : Int) = (2 : Int) ^ a := by simp
  omega
theorem hash_em {s i : Int} {cs : Cs} {Q : Rv → Cs → Prop} (hs : s.natAbs < 2 ^ 100) (hi : i.natAbs < 2 ^ 100) (h : ∀ z : Int, 0 ≤ z → z < 2147483647 → Q (di z) cs) : Em m__law_hash [.dat (.int s), .dat (.int i)] cs Q := by
  unfold m__law_hash
  rw [em_fnM]
  simp [b__law_hash, dMul, dAdd, dMod, dI, dInt]
  generalize e1 : (s * 1140671 + 27644437 * i * i + 131 * i + 19).fmod 2147483629 = x
  have b1 := fmod_b (x := s * 1140671 + 27644437 * i * i + 131 * i + 19) (m := 2147483629) (by decide)
  rw [e1] at b1
  have x1 : x.natAbs < 2 ^ 32 := abs_lt b1.1 (by omega)
  generalize e2 : (x * x + 62089 * i + 32416187).fmod 2147483587 = y
  have b2 := fmod_b (x := x * x + 62089 * i + 32416187) (m := 2147483587) (by decide)
  rw [e2] at b2
  have y1 : y.natAbs < 2 ^ 32 := abs_lt b2.1 (by omega)
  have b3 := fmod_b (x := y * 48271) (m := 2147483647) (by decide)
  exact ⟨cml 100 32 hs (by decide), cml 32 100 (by decide) hi, cml 132 100 (lg_mul (a := 32) (b := 100) (by decide) hi) hi, cml 32 100 (by decide) hi, cml 32 32 x1 x1, cml 32 100 (by decide) hi, cml 32 32 y1 (by decide), h _ b3.1 b3.2⟩
/-- a generator's cell -/
structure Gs (b : Int) (c : List D) : Prop where
  ex : ∃ g0 g1 g2 : Int, c = [.int g0, .int g1, .int g2] ∧ 0 ≤ g0 ∧ g0 < 10 ^ 600 ∧ 0 ≤ g1 ∧ g1 < 2147483647 ∧ 0 ≤ g2 ∧ g2 ≤ b
theorem Gs.mono {b b' : Int} {c : List D} (g : Gs b c) (h : b ≤ b') : Gs b' c := by
  obtain ⟨g0, g1, g2, e, h0, h1, h2, h3, h4, h5⟩ := g.ex
  exact ⟨g0, g1, g2, e, h0, h1, h2, h3, h4, by omega⟩
theorem ix_own {c : List D} {k : Nat} {cs : Cs} {i : Int} {Q : Rv → Cs → Prop} (h : cs[k]? = some (some c)) : O2 dIx (.own k) (.dat (.int i)) cs Q ↔ wpd (dIx (.list c) (.int i)) fun z => Q z cs := o2_od h
theorem at3_0 {α : Type} {a b c : α} : atI [a, b, c] 0 = some a := rfl
theorem at3_1 {α : Type} {a b c : α} : atI [a, b, c] 1 = some b := rfl
theorem at3_2 {α : Type} {a b c : α} : atI [a, b, c] 2 = some c := rfl
theorem ixN_nat {n : Nat} {i : Int} (h0 : 0 ≤ i) (h1 : i < n) : ixN n i = some i.toNat := by
  unfold ixN
  rw [if_pos h0, if_pos h1]
theorem atI_nat {α : Type} {xs : List α} {i : Int} (h0 : 0 ≤ i) (h1 : i < xs.length) : atI xs i = some (xs[i.toNat]'(by omega)) := by
  unfold atI
  rw [ixN_nat h0 h1]
  show xs[i.toNat]? = _
  rw [List.getElem?_eq_getElem]
theorem random_em {k : Nat} {n b : Int} {cs : Cs} {c : List D} {Q : Rv → Cs → Prop} (hc : cs[k]? = some (some c)) (hg : Gs b c) (hb : b ≤ 10 ^ 20) (hn : 0 < n) (hn2 : n < 2 ^ 2900) (h : ∀ (r : Int) (c' : List D), 0 ≤ r → r < n → Gs (b + 100) c' → Q (di r) (cs.set k (some c'))) : Em m__law_random [.own k, .dat (.int n)] cs Q := by
  obtain ⟨g0, g1, g2, rfl, h0, h1, h2, h3, h4, h5⟩ := hg.ex
  have hk : k < cs.length := (List.getElem?_eq_some_iff.mp hc).1
  unfold m__law_random
  rw [em_fnM]
  simp [b__law_random, ix_own hc, dIx, at3_0, dGt, dCmp]
  by_cases hg0 : 0 < g0
  · rw [if_pos hg0]
    have dv : CDv g0 n := ⟨by omega, by have := log2_le (abs_lt (Int.le_of_lt hn) hn2); omega⟩
    have q0 : 0 ≤ g0.fdiv n := Int.fdiv_nonneg h0 (Int.le_of_lt hn)
    have q1 : g0.fdiv n ≤ g0 := by
      rw [Int.fdiv_eq_ediv_of_nonneg g0 (Int.le_of_lt hn)]
      exact Int.ediv_le_self n h0
    have fb := fmod_b (x := g0) hn
    have e3 : ixN 3 0 = some 0 := rfl
    simp [dInt, dMod, dI, ix_own hc, dIx, at3_0, dDiv, hc, dv, e3, show n ≠ 0 by omega, List.take_of_length_le]
    exact h _ _ fb.1 fb.2 ⟨g0.fdiv n, g1, g2, rfl, q0, by omega, h2, h3, h4, by omega⟩
  · rw [if_neg hg0]
    have bz : Builtin.Int.intBits n ≤ 2900 := PyProof.Rows.intBits_le (abs_lt (Int.le_of_lt hn) hn2)
    have dv : ∀ x : Int, CDv x 30 := fun x => ⟨by decide, .inl (by decide)⟩
    have eq : ((Builtin.Int.intBits n : Int)).fdiv 30 = ((Builtin.Int.intBits n / 30 : Nat) : Int) := by
      rw [Int.fdiv_eq_ediv_of_nonneg _ (by decide)]
      rfl
    generalize ht : Builtin.Int.intBits n / 30 = t at eq
    have ht2 : t ≤ 97 := by omega
    simp [dBits, dDiv, dI, dv, dAdd, eq]
    refine ⟨by constructor <;> omega, ?_⟩
    have ej : ((1 : Int) + (t : Int)).toNat = t + 1 := by omega
    rw [ej]
    refine el_inv (fun i ρ cs1 => ∃ (dr : Int) (x3 : Option Rv), ρ = [some (Rv.own k), some (Rv.dat (PyData.int n)), some (Rv.dat (PyData.int dr)), x3] ∧ cs1 = cs.set k (some [.int g0, .int g1, .int (g2 + i)]) ∧ 0 ≤ dr ∧ dr < 2 ^ (32 * (i + 1))) (k := 0) ⟨0, none, rfl, ?_, Int.le_refl _, by decide⟩ ?_ ?_
    · apply List.ext_getElem?
      intro j
      by_cases hj : k = j
      · subst hj
        rw [List.getElem?_set_self hk, hc]
        simp
      · rw [List.getElem?_set_ne hj]
    · rintro i d ρ cs1 hi ⟨dr, x3, rfl, rfl, d0, d1⟩
      simp only [Nat.zero_add] at d1 ⊢
      have hi2 : i < t + 1 := by
        have := (List.getElem?_eq_some_iff.mp hi).1
        simpa [rngD] using this
      have hcs : ∀ g : List D, (cs.set k (some g))[k]? = some (some g) := fun g => List.getElem?_set_self hk
      have e2 : ixN 3 2 = some 2 := rfl
      have ga : (g2 + (i : Int) + 1).natAbs < 2 ^ 100 := abs_lt (by omega) (by omega)
      simp [ix_own (hcs _), dIx, at3_1, at3_2, dAdd, hcs, e2, dMul]
      have P : (2 : Int) ^ (32 * (i + 1 + 1)) = 2 ^ (32 * (i + 1)) * 4294967296 := by
        rw [show 32 * (i + 1 + 1) = 32 * (i + 1) + 32 by omega, Int.pow_add]
        rfl
      refine ⟨cml (32 * (i + 1)) 32 (abs_lt d0 d1) (by decide) (by omega), ?_⟩
      refine hash_em (abs_lt h2 (by omega)) ga fun z z0 z1 => ?_
      simp [dAdd]
      refine ⟨by rw [Int.add_assoc], by omega, ?_⟩
      rw [P]
      generalize (2 : Int) ^ (32 * (i + 1)) = p at d1 ⊢
      omega
    · rintro ρ cs1 ⟨dr, x3, rfl, rfl, d0, d1⟩
      have fb := fmod_b (x := dr) hn
      simp [dInt, dMod, dI, show n ≠ 0 by omega]
      rw [List.take_of_length_le (by simp)]
      refine h _ _ fb.1 fb.2 ⟨g0, g1, _, rfl, h0, h1, h2, h3, ?_, ?_⟩
      · simp [rngD]; omega
      · simp [rngD]; omega
theorem pick_em {k : Nat} {b : Int} {cs : Cs} {c ds : List D} {Q : Rv → Cs → Prop} (hc : cs[k]? = some (some c)) (hg : Gs b c) (hb : b ≤ 10 ^ 20) (hn : ds ≠ []) (hn2 : ds.length < 10 ^ 9) (h : ∀ (d : D) (c' : List D), d ∈ ds → Gs (b + 100) c' → Q (.dat d) (cs.set k (some c'))) : Em m__law_pick [.own k, .dat (.list ds)] cs Q := by
  have hl : 0 < ds.length := List.length_pos_iff.mpr hn
  unfold m__law_pick
  rw [em_fnM]
  simp [b__law_pick, dLen]
  refine random_em hc hg hb (by omega) (Int.lt_trans (show (ds.length : Int) < 10 ^ 9 by omega) (by decide)) fun r c' r0 r1 hg' => ?_
  simp [dIx, atI_nat r0 r1]
  rw [List.take_of_length_le (by simp)]
  exact h _ _ (List.getElem_mem _) hg'
theorem pickS_em {k : Nat} {b : Int} {cs : Cs} {c : List D} {x : Str} {Q : Rv → Cs → Prop} (hc : cs[k]? = some (some c)) (hg : Gs b c) (hb : b ≤ 10 ^ 20) (hn : 0 < x.length) (hn2 : x.length < 10 ^ 9) (h : ∀ (y : Nat) (c' : List D), y ∈ x.cps.toList → Gs (b + 100) c' → Q (.dat (.str ⟨#[y]⟩)) (cs.set k (some c'))) : Em m__law_pick [.own k, .dat (.str x)] cs Q := by
  unfold m__law_pick
  rw [em_fnM]
  simp [b__law_pick, dLen]
  refine random_em hc hg hb (by omega) (Int.lt_trans (show (x.length : Int) < 10 ^ 9 by omega) (by decide)) fun r c' r0 r1 hg' => ?_
  have r1' : r < (x.cps.toList.length : Int) := by rw [Array.length_toList]; exact r1
  simp only [o2_dd, dIx, atI_nat r0 r1', wpd_some, Option.map_some, ret_dat, fin_dat]
  rw [List.take_of_length_le (by simp)]
  exact h _ _ (List.getElem_mem _) hg'
theorem cell_em {i : Int} {ns : List Int} {cs : Cs} {Q : Rv → Cs → Prop} (hi : 0 ≤ i) (hb : ∀ z ∈ ns, Builtin.Int.intBits z ≤ 1048576) (hl : ns.length ≤ 1000) (h : ∀ z : Int, Q (di z) cs) : Em m__law_cell [.dat (.list (ns.map .int)), .dat (.int i)] cs Q := by
  unfold m__law_cell
  rw [em_fnM]
  simp [b__law_cell, dLen, dLt, dCmp]
  by_cases hlt : i < (ns.length : Int)
  · rw [if_pos hlt]
    have hlt' : i < ((ns.map PyData.int).length : Int) := by simpa using hlt
    simp only [o2_dd, dIx, atI_nat hi hlt', wpd_some, Option.map_some, ret_dat, fin_dat, List.getElem_map, nx_rt, List.take_length]
    exact h _
  · rw [if_neg hlt]
    have ic : ∀ l : List Int, intsD (l.map PyData.int) = some l := fun l => by
      induction l with
      | nil => rfl
      | cons a l ih =>
        show (intsD (l.map PyData.int)).map _ = _
        rw [ih]; rfl
    have ec : DL.cutD (ns.map PyData.int) none (some 1) = ((ns.take 1).map PyData.int) := by
      cases ns with
      | nil => rfl
      | cons a l =>
        unfold DL.cutD HT.sIx
        rw [List.length_map]
        simp
    have ic2 : intsD (List.take 1 (ns.map PyData.int)) = some (ns.take 1) := by rw [← List.map_take, ic]
    simp [dSl, ec, dSum, dMod, dI, ic2]
    exact h _
theorem generator_em {i : Int} {ns : List Int} {cs : Cs} {Q : Rv → Cs → Prop} (hi : 0 ≤ i) (hi2 : i ≤ 10 ^ 9) (hb : ∀ z ∈ ns, Builtin.Int.intBits z ≤ 1048576) (hl : ns.length ≤ 1000) (h : ∀ c : List D, Gs (1000 * i) c → Q (.fr c) cs) : Em m__law_generator [.dat (.list (ns.map .int)), .dat (.int i)] cs Q := by
  unfold m__law_generator
  rw [em_fnM]
  simp [b__law_generator]
  refine cell_em hi hb hl fun z => ?_
  simp [dInt, dMax2, dMod, dSub, dPow, dI, dMul]
  refine ⟨by decide, by decide, by decide, cml 10 30 (by decide) (abs_lt hi (by omega)), by rw [sizeLine_eq]; decide, ?_⟩
  generalize (if z - 1000000000000000000 < 0 then 0 else z - 1000000000000000000) = y
  have f1 := fmod_b (x := y) (m := 10 ^ 600) (by decide)
  have f2 := fmod_b (x := z) (m := 2147483647) (by decide)
  exact h _ ⟨_, _, _, rfl, f1.1, f1.2, f2.1, f2.2, by omega, by omega⟩
end My
namespace My
open PySem PySem.Spec PyProof.Rows L2 DL
def b_is_whole : MS :=
  (sRet (mAnd (mU (dIsi "int") (xVar 0)) (mU dNot (mU (dIsi "bool") (xVar 0)))))
def m_is_whole : MF := fnM 1 b_is_whole
noncomputable def b_common_of : MS :=
  (sSeq (sParO 0 1 (aDat (mCall dAbs (aCons (xVar 0) aNil)) (aDat (mCall dAbs (aCons (xVar 1) aNil)) aNil)))
  (sSeq (sWh (mTB (mB dGt (xVar 1) (xC (.int 0)))) (sParO 0 1 (aDat (xVar 1) (aDat (mB dMod (xVar 0) (xVar 1)) aNil))))
  (sRet (xVar 0))))
noncomputable def m_common_of : MF := fnM 2 b_common_of
noncomputable def b_is_fraction : MS :=
  (sSeq (sIf (mTOr (mTNot (mTru (mU (dIsi "tuple") (xVar 0)))) (mTOr (mTB (mB dNe (mCall dLen (aCons (xVar 0) aNil)) (xC (.int 2)))) (mTOr (mTNot (mTru (mCallF 1 m_is_whole (aCons (mB dIx (xVar 0) (xC (.int 0))) aNil)))) (mTNot (mTru (mCallF 1 m_is_whole (aCons (mB dIx (xVar 0) (xC (.int 1))) aNil))))))) (sRet (xC (.bool false))) sNil)
  (sRet (mAnd (mB dGe (mB dIx (xVar 0) (xC (.int 1))) (xC (.int 1))) (mB dEq (mCallF 2 m_common_of (aCons (mB dIx (xVar 0) (xC (.int 0))) (aCons (mB dIx (xVar 0) (xC (.int 1))) aNil))) (xC (.int 1))))))
noncomputable def m_is_fraction : MF := fnM 1 b_is_fraction
noncomputable def b_lowest_of : MS :=
  (sSeq (sSet 2 (mCallF 2 m_common_of (aCons (xVar 0) (aCons (xVar 1) aNil))))
  (sSeq (sIf (mTB (mB dLt (xVar 1) (xC (.int 0)))) (sSet 2 (mB dSub (xC (.int 0)) (xVar 2))) sNil)
  (sRet (xTup (aCons (mB dDiv (xVar 0) (xVar 2)) (aCons (mB dDiv (xVar 1) (xVar 2)) aNil))))))
noncomputable def m_lowest_of : MF := fnM 3 b_lowest_of
noncomputable def b_plus_of : MS :=
  (sRet (mCallF 2 m_lowest_of (aCons (mB dAdd (mB dMul (mB dIx (xVar 0) (xC (.int 0))) (mB dIx (xVar 1) (xC (.int 1)))) (mB dMul (mB dIx (xVar 1) (xC (.int 0))) (mB dIx (xVar 0) (xC (.int 1))))) (aCons (mB dMul (mB dIx (xVar 0) (xC (.int 1))) (mB dIx (xVar 1) (xC (.int 1)))) aNil))))
noncomputable def m_plus_of : MF := fnM 2 b_plus_of
noncomputable def b_times_of : MS :=
  (sRet (mCallF 2 m_lowest_of (aCons (mB dMul (mB dIx (xVar 0) (xC (.int 0))) (mB dIx (xVar 1) (xC (.int 0)))) (aCons (mB dMul (mB dIx (xVar 0) (xC (.int 1))) (mB dIx (xVar 1) (xC (.int 1)))) aNil))))
noncomputable def m_times_of : MF := fnM 2 b_times_of
end My
namespace My
open PySem PySem.Spec PyProof.Rows L2 DL
/-! fractions: what the shared defs compute -/
theorem fem_eq {m : MF} {rs : List Rv} {cs cs' : Cs} {z : Rv} (h : Em m rs cs fun r c => r = z ∧ c = cs') : m rs cs = some (z, cs') := by
  obtain ⟨a, b, e, rfl, rfl⟩ := wpo_iff.mp h
  exact e
theorem fem_of {m : MF} {rs : List Rv} {cs cs' : Cs} {z : Rv} {Q : Rv → Cs → Prop} (e : m rs cs = some (z, cs')) (h : Q z cs') : Em m rs cs Q := wpo_of e h
theorem fisi_tuple (d : D) : dIsi "tuple" d = some (db (match d with | .tuple _ => true | _ => false)) := by
  cases d with
  | dict kvs =>
    show (kitB (if isFn kvs = true then "function" else "dict") "tuple").map db = _
    split <;> rfl
  | _ => rfl
theorem fisi_int (d : D) : dIsi "int" d = some (db (match d with | .int _ => true | .bool _ => true | _ => false)) := by
  cases d with
  | dict kvs =>
    show (kitB (if isFn kvs = true then "function" else "dict") "int").map db = _
    split <;> rfl
  | _ => rfl
theorem fisi_bool (d : D) : dIsi "bool" d = some (db (match d with | .bool _ => true | _ => false)) := by
  cases d with
  | dict kvs =>
    show (kitB (if isFn kvs = true then "function" else "dict") "bool").map db = _
    split <;> rfl
  | _ => rfl
theorem fdEq_int {i j : Int} : dEq (.int i) (.int j) = some (db (i == j)) := by
  unfold dEq
  rw [if_pos ⟨rfl, rfl, by show min 0 0 ≤ 100; decide⟩]
  rfl
theorem fdNe_int {i j : Int} : dNe (.int i) (.int j) = some (db (!(i == j))) := by
  unfold dNe
  rw [if_pos ⟨rfl, rfl, by show min 0 0 ≤ 100; decide⟩]
  rfl
theorem dGt_int {i j : Int} : dGt (.int i) (.int j) = some (db (decide (j < i))) := rfl
theorem dLt_int {i j : Int} : dLt (.int i) (.int j) = some (db (decide (i < j))) := rfl
theorem dGe_int {i j : Int} : dGe (.int i) (.int j) = some (db (decide (j ≤ i))) := rfl
theorem dSub_int {i j : Int} : dSub (.int i) (.int j) = some (di (i - j)) := rfl
theorem dAdd_int {i j : Int} : dAdd (.int i) (.int j) = some (di (i + j)) := rfl
theorem dMul_int {i j : Int} (h : CMl i j) : dMul (.int i) (.int j) = some (di (i * j)) := if_pos h
theorem dDiv_int {i j : Int} (h : CDv i j) : dDiv (.int i) (.int j) = some (di (i.fdiv j)) := if_pos h
theorem dMod_int {i j : Int} (h : j ≠ 0) : dMod (.int i) (.int j) = some (di (i.fmod j)) := if_pos h
theorem dAbs_int {i : Int} : dAbs [.int i] = some (di (i.natAbs : Int)) := by
  show some (di (if i < 0 then -i else i)) = _
  congr 3
  split <;> omega
def wholeB : D → Bool
  | .int _ => true
  | _ => false
theorem is_whole_eq {d : D} {cs : Cs} : m_is_whole [.dat d] cs = some (db (wholeB d), cs) := by
  refine fem_eq ?_
  unfold m_is_whole
  rw [em_fnM]
  unfold b_is_whole
  cases d <;> simp [fisi_int, fisi_bool, dNot, wholeB]
/-- the measure of the Euclid loop -/
def muE (ρ : Rho) (_ : Cs) : Nat := match ρ with
  | [_, some (.dat (.int y))] => y.toNat
  | _ => 0
theorem common_eq {a b : Int} {cs : Cs} : m_common_of [.dat (.int a), .dat (.int b)] cs = some (di (Int.gcd a b), cs) := by
  refine fem_eq ?_
  unfold m_common_of
  rw [em_fnM]
  unfold b_common_of
  simp [dAbs_int]
  refine es_sWh (fun ρ c => ∃ x y : Nat, ρ = [some (di x), some (di y)] ∧ c = cs ∧ Nat.gcd x y = Int.gcd a b) muE ⟨a.natAbs, b.natAbs, rfl, rfl, rfl⟩ ?_
  rintro ρ c ⟨x, y, rfl, rfl, h⟩
  by_cases hy : 0 < y
  · have hy' : (y : Int) ≠ 0 := by omega
    have e : (x : Int).fmod y = ((x % y : Nat) : Int) := by rw [Int.fmod_eq_emod_of_nonneg _ (by omega)]; rfl
    simp [dGt_int, hy, dMod_int hy', e, muE]
    refine ⟨⟨y, x % y, ⟨rfl, by omega⟩, ?_⟩, ?_⟩
    · rw [← h, Nat.gcd_comm x y, Nat.gcd_rec y x, Nat.gcd_comm]
    · have := Nat.mod_lt x hy
      omega
  · have : y = 0 := by omega
    subst this
    simp [dGt_int]
    rw [← h]
    simp
/-- the parts of a / b in lowest terms -/
def nfA (a b : Int) : Int := (b.sign * a) / (Int.gcd a b : Int)
def nfB (a b : Int) : Int := (b.natAbs : Int) / (Int.gcd a b : Int)
theorem gcd_pos {a b : Int} (h : b ≠ 0) : 0 < Int.gcd a b := Nat.gcd_pos_of_pos_right _ (Int.natAbs_pos.mpr h)
theorem gcd_le {a b : Int} (h : b ≠ 0) : Int.gcd a b ≤ b.natAbs := Nat.gcd_le_right _ (Int.natAbs_pos.mpr h)
theorem fdiv_pos {a g : Int} (h : 0 < g) : a.fdiv g = a / g := Int.fdiv_eq_ediv_of_nonneg a (Int.le_of_lt h)
theorem fdiv_neg' {a g : Int} (h : 0 < g) (hd : g ∣ a) : a.fdiv (-g) = (-a) / g := by
  obtain ⟨k, rfl⟩ := hd
  have e : (g * k).fdiv (-g) = -k := by
    rw [show g * k = (-g) * (-k) by rw [Int.neg_mul_neg], Int.mul_fdiv_cancel_left _ (by omega)]
  rw [e, show -(g * k) = g * (-k) by rw [Int.mul_neg], Int.mul_ediv_cancel_left _ (by omega)]
theorem lowest_eq {a b : Int} {cs : Cs} (hb : b ≠ 0) (hz : b.natAbs < 2 ^ 8000) : m_lowest_of [.dat (.int a), .dat (.int b)] cs = some (.dat (.tuple [.int (nfA a b), .int (nfB a b)]), cs) := by
  have g0 := gcd_pos (a := a) hb
  have g1 : Int.gcd a b < 2 ^ 8000 := Nat.lt_of_le_of_lt (gcd_le hb) hz
  have two : 2 ≤ sizeLine := by rw [sizeLine_eq]; decide
  have dv : ∀ x : Int, CDv x (Int.gcd a b : Int) := fun x => ⟨by omega, .inl (by
    have := log2_le g1
    show (Int.gcd a b : Int).natAbs.log2 < 9000
    rw [Int.natAbs_natCast]
    omega)⟩
  have dvn : ∀ x : Int, CDv x (-(Int.gcd a b : Int)) := fun x => ⟨by omega, .inl (by
    have := log2_le g1
    show (-(Int.gcd a b : Int)).natAbs.log2 < 9000
    rw [Int.natAbs_neg, Int.natAbs_natCast]
    omega)⟩
  have gi : (0 : Int) < (Int.gcd a b : Int) := by omega
  refine fem_eq ?_
  unfold m_lowest_of
  rw [em_fnM]
  unfold b_lowest_of
  simp
  refine fem_of common_eq ?_
  by_cases hn : b < 0
  · have s : b.sign = -1 := Int.sign_eq_neg_one_of_neg hn
    have e1 : a.fdiv (-(Int.gcd a b : Int)) = nfA a b := by
      rw [fdiv_neg' gi (Int.gcd_dvd_left ..)]
      unfold nfA
      rw [s, Int.neg_one_mul]
    have e2 : b.fdiv (-(Int.gcd a b : Int)) = nfB a b := by
      rw [fdiv_neg' gi (Int.gcd_dvd_right ..)]
      unfold nfB
      rw [show (b.natAbs : Int) = -b by omega]
    simp [dLt_int, hn, dSub_int, dDiv_int (dvn _), e1, e2, two]
  · have s : b.sign = 1 := Int.sign_eq_one_of_pos (by omega)
    have e1 : a.fdiv (Int.gcd a b : Int) = nfA a b := by
      rw [fdiv_pos gi]
      unfold nfA
      rw [s, Int.one_mul]
    have e2 : b.fdiv (Int.gcd a b : Int) = nfB a b := by
      rw [fdiv_pos gi]
      unfold nfB
      rw [show (b.natAbs : Int) = b by omega]
    simp [dLt_int, hn, dDiv_int (dv _), e1, e2, two]
def fracB : D → Bool
  | .tuple [.int p, .int q] => decide (1 ≤ q) && ((Int.gcd p q : Int) == 1)
  | _ => false
theorem dIx_t0 {a b : D} : dIx (.tuple [a, b]) (.int 0) = some (.dat a) := rfl
theorem dIx_t1 {a b : D} : dIx (.tuple [a, b]) (.int 1) = some (.dat b) := rfl
theorem is_fraction_eq {d : D} {cs : Cs} : m_is_fraction [.dat d] cs = some (db (fracB d), cs) := by
  refine fem_eq ?_
  unfold m_is_fraction
  rw [em_fnM]
  unfold b_is_fraction
  cases d with
  | tuple ds =>
    match ds with
    | [] => simp [fisi_tuple, dLen, fdNe_int, fracB]
    | [_] => simp [fisi_tuple, dLen, fdNe_int, fracB]
    | x :: y :: z :: r =>
      have e : ((((x :: y :: z :: r).length : Nat) : Int) == 2) = false := by
        rw [beq_eq_false_iff_ne]
        simp only [List.length_cons]
        omega
      simp [fisi_tuple, dLen, fdNe_int, fracB]
      intro h
      exfalso
      have := Int.natCast_nonneg r.length
      omega
    | [x, y] =>
      simp [fisi_tuple, dLen, fdNe_int, dIx_t0, dIx_t1]
      refine fem_of is_whole_eq ?_
      simp
      by_cases hx : ∃ p, x = .int p
      · obtain ⟨p, rfl⟩ := hx
        rw [show wholeB (.int p) = true from rfl, if_pos rfl]
        refine fem_of is_whole_eq ?_
        by_cases hy : ∃ q, y = .int q
        · obtain ⟨q, rfl⟩ := hy
          simp [wholeB, dGe_int]
          by_cases h1 : 1 ≤ q
          · simp [h1]
            refine fem_of common_eq ?_
            simp [fdEq_int, fracB, h1]
          · simp [h1, fracB]
        · have : wholeB y = false := by
            cases y with
            | int q => exact absurd ⟨q, rfl⟩ hy
            | _ => rfl
          simp [this]
          cases y with
          | int q => exact absurd ⟨q, rfl⟩ hy
          | _ => rfl
      · have : wholeB x = false := by
          cases x with
          | int q => exact absurd ⟨q, rfl⟩ hx
          | _ => rfl
        rw [this, if_neg (by decide)]
        cases x with
        | int q => exact absurd ⟨q, rfl⟩ hx
        | _ => rfl
  | _ => simp [fisi_tuple, fracB]
theorem pow_le {n a b : Nat} (h : n < 2 ^ a) (hab : a ≤ b) : n < 2 ^ b := Nat.lt_of_lt_of_le h (Nat.pow_le_pow_right (by decide) hab)
theorem lg_add {i j : Int} {a : Nat} (h1 : i.natAbs < 2 ^ a) (h2 : j.natAbs < 2 ^ a) : (i + j).natAbs < 2 ^ (a + 1) := by
  rw [Nat.pow_succ]
  omega
theorem times_eq {p1 q1 p2 q2 : Int} {n : Nat} {cs : Cs} (h1 : p1.natAbs < 2 ^ n) (h2 : q1.natAbs < 2 ^ n) (h3 : p2.natAbs < 2 ^ n) (h4 : q2.natAbs < 2 ^ n) (hq1 : q1 ≠ 0) (hq2 : q2 ≠ 0) (hn : n ≤ 4000) :
    m_times_of [.dat (.tuple [.int p1, .int q1]), .dat (.tuple [.int p2, .int q2])] cs = some (.dat (.tuple [.int (nfA (p1 * p2) (q1 * q2)), .int (nfB (p1 * p2) (q1 * q2))]), cs) := by
  refine fem_eq ?_
  unfold m_times_of
  rw [em_fnM]
  unfold b_times_of
  simp [dIx_t0, dIx_t1, dMul_int (cml n n h1 h3 (by omega)), dMul_int (cml n n h2 h4 (by omega))]
  refine fem_of (lowest_eq (Int.mul_ne_zero hq1 hq2) (pow_le (lg_mul h2 h4) (by omega))) ?_
  simp
theorem plus_eq {p1 q1 p2 q2 : Int} {n : Nat} {cs : Cs} (h1 : p1.natAbs < 2 ^ n) (h2 : q1.natAbs < 2 ^ n) (h3 : p2.natAbs < 2 ^ n) (h4 : q2.natAbs < 2 ^ n) (hq1 : q1 ≠ 0) (hq2 : q2 ≠ 0) (hn : n ≤ 4000) :
    m_plus_of [.dat (.tuple [.int p1, .int q1]), .dat (.tuple [.int p2, .int q2])] cs = some (.dat (.tuple [.int (nfA (p1 * q2 + p2 * q1) (q1 * q2)), .int (nfB (p1 * q2 + p2 * q1) (q1 * q2))]), cs) := by
  refine fem_eq ?_
  unfold m_plus_of
  rw [em_fnM]
  unfold b_plus_of
  simp [dIx_t0, dIx_t1, dMul_int (cml n n h1 h4 (by omega)), dMul_int (cml n n h3 h2 (by omega)), dMul_int (cml n n h2 h4 (by omega)), dAdd_int]
  refine fem_of (lowest_eq (Int.mul_ne_zero hq1 hq2) (pow_le (lg_mul h2 h4) (by omega))) ?_
  simp
theorem nfB_pos {a b : Int} (h : b ≠ 0) : 0 < nfB a b := by
  have g0 := gcd_pos (a := a) h
  have g1 := gcd_le (a := a) h
  unfold nfB
  rw [← Int.natCast_ediv]
  have := Nat.div_pos g1 g0
  omega
theorem nfB_le {a b : Int} (h : b ≠ 0) : (nfB a b).natAbs ≤ b.natAbs := by
  unfold nfB
  rw [← Int.natCast_ediv, Int.natAbs_natCast]
  exact Nat.div_le_self _ _
theorem nfA_le {a b : Int} : (nfA a b).natAbs ≤ a.natAbs := by
  unfold nfA
  refine Nat.le_trans (Int.natAbs_ediv_le_natAbs _ _) ?_
  rw [Int.natAbs_mul]
  have : b.sign.natAbs ≤ 1 := by
    rcases Int.lt_trichotomy b 0 with h | h | h
    · rw [Int.sign_eq_neg_one_of_neg h]; decide
    · subst h; decide
    · rw [Int.sign_eq_one_of_pos h]; decide
  exact Nat.le_trans (Nat.mul_le_mul_right _ this) (by omega)
theorem nf_gcd {a b : Int} (h : b ≠ 0) : Int.gcd (nfA a b) (nfB a b) = 1 := by
  have g0 := gcd_pos (a := a) h
  have s1 : b.sign.natAbs = 1 := by
    rcases Int.lt_trichotomy b 0 with h' | h' | h'
    · rw [Int.sign_eq_neg_one_of_neg h']; rfl
    · exact absurd h' h
    · rw [Int.sign_eq_one_of_pos h']; rfl
  have eA : (nfA a b).natAbs = a.natAbs / Int.gcd a b := by
    unfold nfA
    rw [Int.natAbs_ediv_of_dvd (Int.dvd_mul_of_dvd_right (Int.gcd_dvd_left ..)), Int.natAbs_mul, s1, Nat.one_mul, Int.natAbs_natCast]
  have eB : (nfB a b).natAbs = b.natAbs / Int.gcd a b := by
    unfold nfB
    rw [← Int.natCast_ediv, Int.natAbs_natCast]
  show Nat.gcd (nfA a b).natAbs (nfB a b).natAbs = 1
  rw [eA, eB]
  exact Nat.gcd_div_gcd_div_gcd_of_pos_right (Int.natAbs_pos.mpr h)
theorem nf_frac {a b : Int} (h : b ≠ 0) : fracB (.tuple [.int (nfA a b), .int (nfB a b)]) = true := by
  show (decide (1 ≤ nfB a b) && ((Int.gcd (nfA a b) (nfB a b) : Int) == 1)) = true
  rw [nf_gcd h, decide_eq_true (by have := nfB_pos (a := a) h; omega)]
  rfl
/-- a fraction in lowest terms stays -/
theorem nf_of {p q : Int} (h1 : 0 < q) (h2 : Int.gcd p q = 1) : nfA p q = p ∧ nfB p q = q := by
  unfold nfA nfB
  rw [h2, Int.sign_eq_one_of_pos h1]
  constructor
  · simp
  · simp; omega
theorem nf_neg {a b : Int} : nfA (-a) (-b) = nfA a b ∧ nfB (-a) (-b) = nfB a b := by
  unfold nfA nfB
  rw [Int.gcd_neg, Int.neg_gcd, Int.sign_neg, Int.neg_mul_neg, Int.natAbs_neg]
  exact ⟨rfl, rfl⟩
theorem nf_mul {a b k : Int} (hk : 0 < k) (hb : b ≠ 0) : nfA (a * k) (b * k) = nfA a b ∧ nfB (a * k) (b * k) = nfB a b := by
  have hk' : k.natAbs ≠ 0 := by omega
  have e : Int.gcd (a * k) (b * k) = Int.gcd a b * k.natAbs := Int.gcd_mul_right ..
  have ek : ((k.natAbs : Nat) : Int) = k := by omega
  unfold nfA nfB
  rw [e, Int.sign_mul, Int.sign_eq_one_of_pos hk, Int.mul_one, Int.natAbs_mul, Int.natCast_mul, Int.natCast_mul, ek, ← Int.mul_assoc]
  exact ⟨Int.mul_ediv_mul_of_pos_left _ _ hk, Int.mul_ediv_mul_of_pos_left _ _ hk⟩
end My
namespace My
open PySem PySem.Spec PyProof.Rows L2 DL
/-! Euclid's steps: how many -/
def eu1 (p : Nat × Nat) : Nat × Nat := if 0 < p.2 then (p.2, p.1 % p.2) else (p.1, 0)
def eu : Nat → Nat × Nat → Nat × Nat
  | 0, p => p
  | n + 1, p => eu n (eu1 p)
theorem eu_succ : ∀ (n : Nat) (p : Nat × Nat), eu (n + 1) p = eu1 (eu n p)
  | 0, _ => rfl
  | n + 1, p => by
    show eu (n + 1) (eu1 p) = eu1 (eu n (eu1 p))
    exact eu_succ n (eu1 p)
theorem eu1_gcd (p : Nat × Nat) : Nat.gcd (eu1 p).1 (eu1 p).2 = Nat.gcd p.1 p.2 := by
  unfold eu1
  split
  · show Nat.gcd p.2 (p.1 % p.2) = _
    rw [Nat.gcd_comm p.1 p.2, Nat.gcd_rec p.2 p.1, Nat.gcd_comm]
  · have : p.2 = 0 := by omega
    rw [this]
theorem eu_gcd : ∀ (n : Nat) (p : Nat × Nat), Nat.gcd (eu n p).1 (eu n p).2 = Nat.gcd p.1 p.2
  | 0, _ => rfl
  | n + 1, p => by
    show Nat.gcd (eu n (eu1 p)).1 (eu n (eu1 p)).2 = _
    rw [eu_gcd n, eu1_gcd]
def fib : Nat → Nat
  | 0 => 0
  | 1 => 1
  | n + 2 => fib n + fib (n + 1)
theorem eu_zero : ∀ (n : Nat) (x : Nat), (eu n (x, 0)).2 = 0
  | 0, _ => rfl
  | n + 1, x => eu_zero n x
theorem lame : ∀ (n a b : Nat), 0 < (eu n (a, b)).2 → fib (n + 1) ≤ b ∧ (b ≤ a → fib (n + 2) ≤ a)
  | 0, a, b, h => by
    have h' : 0 < b := h
    exact ⟨h', fun hb => by show 0 + 1 ≤ a; omega⟩
  | n + 1, a, b, h => by
    have hb : 0 < b := by
      rcases Nat.eq_zero_or_pos b with h0 | h0
      · subst h0
        have := eu_zero (n + 1) a
        omega
      · exact h0
    have e : eu (n + 1) (a, b) = eu n (b, a % b) := by
      show eu n (eu1 (a, b)) = _
      unfold eu1
      rw [if_pos hb]
    rw [e] at h
    obtain ⟨h1, h2⟩ := lame n b (a % b) h
    have hm := Nat.mod_lt a hb
    have h3 := h2 (Nat.le_of_lt hm)
    refine ⟨h3, fun hba => ?_⟩
    have : b + a % b ≤ a := by
      have q1 := Nat.div_add_mod a b
      have q2 : 1 ≤ a / b := Nat.div_pos hba hb
      have q3 : b * 1 ≤ b * (a / b) := Nat.mul_le_mul_left b q2
      omega
    show fib (n + 1) + fib (n + 2) ≤ a
    omega
theorem fib_mono : ∀ n, fib n ≤ fib (n + 1)
  | 0 => Nat.zero_le _
  | 1 => Nat.le_refl _
  | n + 2 => by
    have h1 : fib n ≤ fib (n + 1) := fib_mono n
    have h2 : fib (n + 1) ≤ fib (n + 2) := fib_mono (n + 1)
    show fib n + fib (n + 1) ≤ fib (n + 1) + fib (n + 2)
    omega
theorem fib_ten : ∀ d, 10 ^ d ≤ fib (5 * d + 2)
  | 0 => Nat.le_refl 1
  | d + 1 => by
    have ih := fib_ten d
    have m := fib_mono (5 * d + 1)
    have m0 := fib_mono (5 * d)
    rw [show 5 * (d + 1) + 2 = 5 * d + 2 + 5 by omega, Nat.pow_succ]
    have e2 : fib (5 * d + 2) = fib (5 * d) + fib (5 * d + 1) := rfl
    have e3 : fib (5 * d + 3) = fib (5 * d + 1) + fib (5 * d + 2) := rfl
    have e4 : fib (5 * d + 4) = fib (5 * d + 2) + fib (5 * d + 3) := rfl
    have e5 : fib (5 * d + 5) = fib (5 * d + 3) + fib (5 * d + 4) := rfl
    have e6 : fib (5 * d + 6) = fib (5 * d + 4) + fib (5 * d + 5) := rfl
    have e7 : fib (5 * d + 2 + 5) = fib (5 * d + 5) + fib (5 * d + 6) := rfl
    omega
theorem eu_done {a b d : Nat} (h : b < 10 ^ d) : (eu (5 * d + 1) (a, b)).2 = 0 := by
  rcases Nat.eq_zero_or_pos (eu (5 * d + 1) (a, b)).2 with h0 | h0
  · exact h0
  · have h1 : fib (5 * d + 2) ≤ b := (lame _ a b h0).1
    have h2 := fib_ten d
    omega
theorem eu_end {a b d : Nat} (h : b < 10 ^ d) : eu (5 * d + 1) (a, b) = (Nat.gcd a b, 0) := by
  have h1 := eu_done (a := a) h
  have h2 := eu_gcd (5 * d + 1) (a, b)
  rw [h1, Nat.gcd_zero_right] at h2
  exact Prod.ext h2 h1
end My
namespace My
open PySem PySem.Spec PyProof.Rows L2 DL
def b__law_copied (self : MF) : MS :=
  (sSeq (sIf (mTru (mU (dIsi "list") (xVar 0))) (sRet (xComp (iSeq (xVar 0)) (gNm 1) mYes (mCallF 1 self (aCons (xVar 1) aNil)) [1])) sNil)
  (sSeq (sIf (mTru (mU (dIsi "tuple") (xVar 0))) (sRet (mCall dTuple (aCons (xComp (iSeq (xVar 0)) (gNm 1) mYes (mCallF 1 self (aCons (xVar 1) aNil)) [1]) aNil))) sNil)
  (sRet (mIf (mTru (mU (dIsi "dict") (xVar 0))) (mCall dDict (aCons (xComp (iSeq (xVar 0)) (gNm 2) mYes (xTup (aCons (xVar 2) (aCons (mCallF 1 self (aCons (mB dDGet (xVar 0) (xVar 2)) aNil)) aNil))) [2]) aNil)) (xVar 0)))))
def m__law_copied : MF := recM 3 b__law_copied 6
def b__law_exact (self : MF) : MS :=
  (sSeq (sIf (mTru (mU (dIsi "list") (xVar 1))) (sRet (mAnd (mU (dIsi "list") (xVar 0)) (mAnd (mB dEq (mCall dLen (aCons (xVar 0) aNil)) (mCall dLen (aCons (xVar 1) aNil))) (mB dNotIn (xC (.bool false)) (xComp (iZp (aCons (xVar 0) (aCons (xVar 1) aNil))) (gTp 2 (gsCons (gNm 2) (gsCons (gNm 3) gsNil))) mYes (mCallF 2 self (aCons (xVar 2) (aCons (xVar 3) aNil))) [2, 3]))))) sNil)
  (sSeq (sIf (mTru (mU (dIsi "tuple") (xVar 1))) (sRet (mAnd (mU (dIsi "tuple") (xVar 0)) (mAnd (mB dEq (mCall dLen (aCons (xVar 0) aNil)) (mCall dLen (aCons (xVar 1) aNil))) (mB dNotIn (xC (.bool false)) (xComp (iZp (aCons (xVar 0) (aCons (xVar 1) aNil))) (gTp 2 (gsCons (gNm 2) (gsCons (gNm 3) gsNil))) mYes (mCallF 2 self (aCons (xVar 2) (aCons (xVar 3) aNil))) [2, 3]))))) sNil)
  (sSeq (sIf (mTB (mB (dIs id) (xVar 1) (xC .none))) (sRet (mB (dIs id) (xVar 0) (xC .none))) sNil)
  (sSeq (sIf (mTB (mB (dIs id) (xVar 1) (xC (.bool true)))) (sRet (mB (dIs id) (xVar 0) (xC (.bool true)))) sNil)
  (sSeq (sIf (mTB (mB (dIs id) (xVar 1) (xC (.bool false)))) (sRet (mB (dIs id) (xVar 0) (xC (.bool false)))) sNil)
  (sSeq (sIf (mTru (mU (dIsi "int") (xVar 1))) (sRet (mAnd (mU (dIsi "int") (xVar 0)) (mAnd (mU dNot (mU (dIsi "bool") (xVar 0))) (mB dEq (xVar 0) (xVar 1))))) sNil)
  (sRet (mAnd (mU (dIsi "str") (xVar 0)) (mB dEq (xVar 0) (xVar 1))))))))))
def m__law_exact : MF := recM 4 b__law_exact 6
def b__law_any : MS :=
  (sSeq (sSet 1 (xLst (aCons (xC .none) (aCons (xC (.bool true)) (aCons (xC (.bool false)) (aCons (xC (.int 0)) (aCons (xC (.int 1)) (aCons (mU dNeg (xC (.int 1))) (aCons (mB dPow (xC (.int 10)) (xC (.int 11))) (aCons (xC (.str "")) (aCons (xC (.str "a")) (aCons (xC (.str "A")) (aCons (xC (.str "ab")) (aCons (xC (.str "a b")) (aCons (xC (.str "1a")) (aCons (xC (.str "a1")) (aCons (xC (.str " ")) (aCons (xC (.str "a\n")) (aCons (mB dMul (xC (.str "z")) (xC (.int 20))) (aCons (mB dMul (xC (.str "z")) (xC (.int 21))) (aCons (xC (.str "abcdefgh")) (aCons (xC (.str "abcdefghi")) aNil))))))))))))))))))))))
  (sSeq (sSet 1 (mB dAdd (xVar 1) (xLst (aCons (xLst aNil) (aCons (xTup aNil) (aCons (xC (.dict [])) (aCons (xLst (aCons (xC (.int 0)) aNil)) (aCons (xLst (aCons (xC (.int 1)) (aCons (xC (.int 0)) aNil))) (aCons (xLst (aCons (xC (.int 0)) (aCons (xC (.str "a")) aNil))) (aCons (xLst (aCons (xC (.str "a")) (aCons (xC (.int 0)) aNil))) (aCons (xLst (aCons (xC .none) (aCons (xC (.int 0)) aNil))) (aCons (xLst (aCons (xC (.int 0)) (aCons (xLst (aCons (xC (.int 1)) aNil)) aNil))) (aCons (xLst (aCons (xC (.int 0)) (aCons (xTup (aCons (xC (.int 1)) aNil)) aNil))) (aCons (xLst (aCons (xC (.bool true)) aNil)) (aCons (xLst (aCons (xC (.int 0)) (aCons (xC (.int 1)) aNil))) (aCons (xLst (aCons (xC (.int 0)) (aCons (xC (.int 0)) aNil))) (aCons (xTup (aCons (xC (.int 0)) (aCons (xC (.int 1)) aNil))) (aCons (xLst (aCons (xC (.str "a")) aNil)) (aCons (xLst (aCons (xLst aNil) aNil)) aNil)))))))))))))))))))
  (sSeq (sSet 1 (mB dAdd (xVar 1) (xLst (aCons (xC (.dict [((.str "a"), (.int 1))])) (aCons (xLst (aCons (xC (.int 1)) (aCons (xC (.int 2)) (aCons (mB dPow (xC (.int 10)) (xC (.int 11))) aNil)))) (aCons (xLst (aCons (mU dNeg (xC (.int 1))) aNil)) (aCons (xC (.str "a_b")) (aCons (xC (.str "aB")) (aCons (mB dMul (xC (.str "a")) (xC (.int 200))) (aCons (xC (.str "e0")) (aCons (xC (.str "0")) (aCons (xC (.str "house")) (aCons (xTup (aCons (xC (.str "house")) aNil)) aNil)))))))))))))
  (sRet (mCallF 1 m__law_copied (aCons (mCallF 2 m__law_pick (aCons (xVar 0) (aCons (xVar 1) aNil))) aNil))))))
def m__law_any : MF := fnM 2 b__law_any
/-! plain facts -/
theorem em_eq {m : MF} {rs : List Rv} {cs cs' : Cs} {z : Rv} (h : Em m rs cs fun r c => r = z ∧ c = cs') : m rs cs = some (z, cs') := by
  obtain ⟨a, b, e, rfl, rfl⟩ := wpo_iff.mp h
  exact e
theorem em_of {m : MF} {rs : List Rv} {cs cs' : Cs} {z : Rv} {Q : Rv → Cs → Prop} (e : m rs cs = some (z, cs')) (h : Q z cs') : Em m rs cs Q := wpo_of e h
theorem plain_all : ∀ {l : List D}, PyData.plainAll l = true ↔ ∀ d ∈ l, d.plain = true
  | [] => by simp [PyData.plainAll]
  | x :: xs => by
    rw [PyData.plainAll, Bool.and_eq_true, plain_all]
    simp
theorem eqv_nil (l : List D) : PyData.eqv (.list l) (.list []) = l.isEmpty := by
  cases l <;> simp [PyData.eqv, PyData.eqvAll]
theorem dEq_nil {l : List D} (h : PyData.plainAll l = true) : dEq (.list l) (.list []) = some (db l.isEmpty) := by
  unfold dEq
  rw [if_pos ⟨h, rfl, Nat.le_trans (Nat.min_le_right _ _) (by decide)⟩, eqv_nil]
theorem dNe_nil {l : List D} (h : PyData.plainAll l = true) : dNe (.list l) (.list []) = some (db (!l.isEmpty)) := by
  unfold dNe
  rw [if_pos ⟨h, rfl, Nat.le_trans (Nat.min_le_right _ _) (by decide)⟩, eqv_nil]
theorem dEq_int {i j : Int} : dEq (.int i) (.int j) = some (db (i == j)) := by
  unfold dEq
  rw [if_pos ⟨rfl, rfl, by show min 0 0 ≤ 100; decide⟩]
  rfl
theorem isi_str (d : D) : dIsi "str" d = some (db (match d with | .str _ => true | _ => false)) := by
  cases d with
  | dict kvs =>
    show (kitB (if isFn kvs = true then "function" else "dict") "str").map db = _
    split <;> rfl
  | _ => rfl
theorem isi_list (d : D) : dIsi "list" d = some (db (match d with | .list _ => true | _ => false)) := by
  cases d with
  | dict kvs =>
    show (kitB (if isFn kvs = true then "function" else "dict") "list").map db = _
    split <;> rfl
  | _ => rfl
theorem isi_tuple (d : D) : dIsi "tuple" d = some (db (match d with | .tuple _ => true | _ => false)) := by
  cases d with
  | dict kvs =>
    show (kitB (if isFn kvs = true then "function" else "dict") "tuple").map db = _
    split <;> rfl
  | _ => rfl
theorem isi_dict (d : D) : dIsi "dict" d = some (db (match d with | .dict kvs => !isFn kvs | _ => false)) := by
  cases d with
  | dict kvs =>
    show (kitB (if isFn kvs = true then "function" else "dict") "dict").map db = some (db (!isFn kvs))
    cases isFn kvs <;> rfl
  | _ => rfl
theorem isi_int (d : D) : dIsi "int" d = some (db (match d with | .int _ => true | .bool _ => true | _ => false)) := by
  cases d with
  | dict kvs =>
    show (kitB (if isFn kvs = true then "function" else "dict") "int").map db = _
    split <;> rfl
  | _ => rfl
theorem isi_bool (d : D) : dIsi "bool" d = some (db (match d with | .bool _ => true | _ => false)) := by
  cases d with
  | dict kvs =>
    show (kitB (if isFn kvs = true then "function" else "dict") "bool").map db = _
    split <;> rfl
  | _ => rfl
def SmS (d : D) : Prop := ∀ x, d = .str x → x.length ≤ sizeLine
def isS (d : D) : Bool := match d with
  | .str _ => true
  | _ => false
theorem rng_mem {lo : Int} {n : Nat} {d : D} (h : d ∈ rngD lo n) : ∃ i : Nat, i < n ∧ d = .int (lo + i) := by
  obtain ⟨i, h1, rfl⟩ := List.mem_map.mp h
  exact ⟨i, List.mem_range.mp h1, rfl⟩
theorem rng_len {lo : Int} {n : Nat} : (rngD lo n).length = n := by simp [rngD]
theorem rng_plain {lo : Int} {n : Nat} : PyData.plainAll (rngD lo n) = true := by
  rw [plain_all]
  intro d hd
  obtain ⟨i, _, rfl⟩ := rng_mem hd
  rfl
theorem plain_filter {l : List D} {P : D → Bool} (h : PyData.plainAll l = true) : PyData.plainAll (l.filter P) = true := by
  rw [plain_all] at h ⊢
  exact fun d hd => h d (List.mem_filter.mp hd).1
/-- what may be judged -/
structure Gd (d : D) : Prop where
  ok : rOk d = true
  sm : SmS d
  li : ∀ ds, d = .list ds → ds.length ≤ sizeLine ∧ PyData.plainAll ds = true ∧ ∀ x ∈ ds, SmS x
theorem notin_bools {l : List D} (h : ∀ d ∈ l, d = .bool true) : dNotIn (.bool false) (.list l) = some (db true) := by
  unfold dNotIn
  rw [if_pos (c := CIn (.bool false) (.list l)) ⟨plain_all.mpr fun d hd => by rw [h d hd]; rfl, rfl, Nat.le_trans (Nat.min_le_right _ _) (by show 0 ≤ 100; decide)⟩]
  have e : inD (.bool false) (.list l) = false := by
    show (l.any fun y => PyData.eqv y (.bool false)) = false
    rw [List.any_eq_false]
    intro d hd
    rw [h d hd]
    decide
  rw [e]
  rfl
theorem dEq_str {x y : Str} : dEq (.str x) (.str y) = some (db (x == y)) := by
  unfold dEq
  rw [if_pos ⟨rfl, rfl, by show min 0 0 ≤ 100; decide⟩]
  rfl
theorem repr_ok {d : D} (h : rOk d = true) : dRepr [d] = some (.dat (.str d.shown)) := if_pos h
theorem two_fit : 2 ≤ sizeLine := by rw [sizeLine_eq]; decide
theorem pick0 {r : Rv} : pick [0] [r] = [r] := rfl
/-- a small plain thing -/
def flB : D → Bool
  | .none => true
  | .bool _ => true
  | .int i => decide (i.natAbs < 10 ^ 40)
  | .str x => decide (x.length ≤ 1000) && x.cps.toList.all fun c => decide (c < 16 ^ 8)
  | _ => false
theorem ofs_len (x : String) : (Str.ofString x).length = x.length := PySem.ofString_length x
theorem fl_show {d : D} (h : flB d = true) : d.showable = true := by
  cases d with
  | int i =>
    have h' : i.natAbs < 10 ^ 40 := of_decide_eq_true h
    have : i.natAbs.log2 ≤ 133 := log2_le (Nat.lt_trans h' (by decide))
    show decide _ = true
    exact decide_eq_true (by omega)
  | list _ => cases h
  | tuple _ => cases h
  | dict _ => cases h
  | _ => rfl
theorem fl_leaf {d : D} (h : flB d = true) : d.leavesShort 41 = true := by
  cases d with
  | int i =>
    have h' : i.natAbs < 10 ^ 40 := of_decide_eq_true h
    have := PySem.int_text_length_le10 (k := 40) (by decide) h'
    show decide ((PyData.shown (.int i)).length ≤ 41) = true
    refine decide_eq_true ?_
    show (Str.ofString (toString i)).length ≤ 41
    rw [ofs_len]
    exact this
  | str x => exact (Bool.and_eq_true_iff.mp h).2
  | list _ => cases h
  | tuple _ => cases h
  | dict _ => cases h
  | _ => rfl
theorem fl_bulk {d : D} (h : flB d = true) : d.bulk ≤ 1000 := by
  cases d with
  | str x => exact of_decide_eq_true (Bool.and_eq_true_iff.mp h).1
  | list _ => cases h
  | tuple _ => cases h
  | dict _ => cases h
  | _ => exact Nat.zero_le _
theorem fl_depth {d : D} (h : flB d = true) : d.depth = 0 := by
  cases d with
  | list _ => cases h
  | tuple _ => cases h
  | dict _ => cases h
  | _ => rfl
theorem fl_dict {d : D} (h : flB d = true) : d.hasDict = false := by
  cases d with
  | list _ => cases h
  | tuple _ => cases h
  | dict _ => cases h
  | _ => rfl
theorem fl_plain {d : D} (h : flB d = true) : d.plain = true := by
  cases d with
  | list _ => cases h
  | tuple _ => cases h
  | dict _ => cases h
  | _ => rfl
theorem fl_sm {d : D} (h : flB d = true) : SmS d := fun x e => by
  subst e
  have := of_decide_eq_true (Bool.and_eq_true_iff.mp h).1
  rw [sizeLine_eq]
  omega
theorem fls : ∀ {ds : List D}, (∀ x ∈ ds, flB x = true) → PyData.showableAll ds = true ∧ PyData.leavesShortAll 41 ds = true ∧ PyData.bulkAll ds ≤ 1001 * ds.length ∧ PyData.depthAll ds = 0 ∧ PyData.hasDictAll ds = false ∧ PyData.plainAll ds = true
  | [], _ => ⟨rfl, rfl, Nat.le_refl _, rfl, rfl, rfl⟩
  | d :: ds, h => by
    have a := h d (List.mem_cons_self ..)
    obtain ⟨h1, h2, h3, h4, h5, h6⟩ := fls fun x hx => h x (List.mem_cons_of_mem _ hx)
    refine ⟨?_, ?_, ?_, ?_, ?_, ?_⟩
    · rw [PyData.showableAll, fl_show a, h1]; rfl
    · rw [PyData.leavesShortAll, fl_leaf a, h2]; rfl
    · rw [PyData.bulkAll, List.length_cons]
      have := fl_bulk a
      omega
    · rw [PyData.depthAll, fl_depth a, h4]; rfl
    · rw [PyData.hasDictAll, fl_dict a, h5]; rfl
    · rw [PyData.plainAll, fl_plain a, h6]; rfl
theorem rok {d : D} (h1 : d.showable = true) (h2 : flatD d = true) (h3 : d.depth ≤ 100) (h4 : d.shown.length ≤ sizeLine) : rOk d = true := by
  unfold rOk
  rw [h1, h2, decide_eq_true h3, decide_eq_true h4]
  rfl
theorem gd_list {ds : List D} (h : ∀ x ∈ ds, flB x = true) (hl : ds.length ≤ 100) : Gd (.list ds) := by
  obtain ⟨h1, h2, h3, h4, h5, h6⟩ := fls h
  refine ⟨rok h1 (by show (!PyData.hasDictAll ds) = true; rw [h5]; rfl) (by show PyData.depthAll ds + 1 ≤ 100; omega) ?_, nofun, fun ds' e => ?_⟩
  · have := PyData.shown_le_bulk 41 (by decide) (.list ds) h2
    have e : PyData.bulk (.list ds) = PyData.bulkAll ds := rfl
    rw [e] at this
    rw [sizeLine_eq]
    omega
  · cases e
    exact ⟨by rw [sizeLine_eq]; omega, h6, fun x hx => fl_sm (h x hx)⟩
theorem gd_tuple {ds : List D} (h : ∀ x ∈ ds, flB x = true) (hl : ds.length ≤ 100) : Gd (.tuple ds) := by
  obtain ⟨h1, h2, h3, h4, h5, h6⟩ := fls h
  refine ⟨rok h1 (by show (!PyData.hasDictAll ds) = true; rw [h5]; rfl) (by show PyData.depthAll ds + 1 ≤ 100; omega) ?_, nofun, nofun⟩
  have := PyData.shown_le_bulk 41 (by decide) (.tuple ds) h2
  have e : PyData.bulk (.tuple ds) = PyData.bulkAll ds := rfl
  rw [e] at this
  rw [sizeLine_eq]
  omega
theorem gd_fl {d : D} (h : flB d = true) : Gd d := by
  refine ⟨rok (fl_show h) ?_ (by rw [fl_depth h]; decide) ?_, fl_sm h, ?_⟩
  · cases d with
    | list _ => cases h
    | tuple _ => cases h
    | dict _ => cases h
    | _ => rfl
  · have := PyData.shown_le_bulk 41 (by decide) d (fl_leaf h)
    have := fl_bulk h
    rw [sizeLine_eq]
    omega
  · intro ds e
    subst e
    cases h
/-- by computing -/
def smB : D → Bool
  | .str x => decide (x.length ≤ sizeLine)
  | _ => true
theorem smB_ok {d : D} (h : smB d = true) : SmS d := fun x e => by subst e; exact of_decide_eq_true h
def gdB (d : D) : Bool := rOk d && smB d && match d with
  | .list ds => decide (ds.length ≤ sizeLine) && PyData.plainAll ds && ds.all smB
  | _ => true
theorem gdB_ok {d : D} (h : gdB d = true) : Gd d := by
  unfold gdB at h
  simp only [Bool.and_eq_true] at h
  refine ⟨h.1.1, smB_ok h.1.2, fun ds e => ?_⟩
  subst e
  have h2 := h.2
  simp only [Bool.and_eq_true, decide_eq_true_eq] at h2
  exact ⟨h2.1.1, h2.1.2, fun x hx => smB_ok (List.all_eq_true.mp h2.2 x hx)⟩
/-! ### copies -/
def cpR : D → Rv
  | .list ds => .fr ds
  | d => .dat d
theorem cpR_deg (d : D) : deg (cpR d) = .dat d := by cases d <;> rfl
def cpOk : Nat → D → Bool
  | 0, _ => false
  | n + 1, .list ds => decide (ds.length ≤ sizeLine) && ds.all (cpOk n)
  | n + 1, .tuple ds => decide (ds.length ≤ sizeLine) && ds.all (cpOk n)
  | _ + 1, .dict [] => true
  | n + 1, .dict [(.str x, .int _)] => decide (0 < n) && decide (x.length ≤ sizeLine)
  | _ + 1, .dict _ => false
  | _ + 1, _ => true
theorem datOf_iff {r : Rv} {d : D} {Q : D → Prop} (h : deg r = .dat d) : DatOf r Q ↔ Q d := by
  unfold DatOf
  rw [h]
  exact Iff.rfl
theorem copied_eq : ∀ (n : Nat) (d : D) (cs : Cs), cpOk n d = true → recM 3 b__law_copied n [.dat d] cs = some (cpR d, cs)
  | 0, _, _, h => by cases h
  | n + 1, d, cs, h => by
    refine em_eq ?_
    rw [em_rec, em_fnM]
    unfold b__law_copied
    have body : ∀ (ds : List D), ds.length ≤ sizeLine → ds.all (cpOk n) = true → ∀ (d : D) (Q : List D → Cs → Prop), Q ds cs → Ec (gNm 1) mYes (mCallF 1 (recM 3 b__law_copied n) (aCons (xVar 1) aNil)) ds (wipeR [some (.dat d), none, none] [1]) cs [] Q := fun ds hz ha d Q q => by
      refine ec_pure (fun _ => true) id (fun x hx cs' => ?_) (by simpa using hz) (by rw [List.nil_append, List.map_id, List.filter_eq_self.mpr (fun _ _ => rfl)]; exact q)
      simp [wipeR]
      refine em_of (copied_eq n x cs' (List.all_eq_true.mp ha x hx)) ?_
      exact ⟨rfl, (datOf_iff (cpR_deg x)).mpr rfl⟩
    match d, h with
    | .list ds, h =>
      obtain ⟨h1, h2⟩ := Bool.and_eq_true_iff.mp (show (decide (ds.length ≤ sizeLine) && ds.all (cpOk n)) = true from h)
      simp [isi_list]
      refine body ds (of_decide_eq_true h1) h2 _ _ ?_
      simp [cpR]
    | .tuple ds, h =>
      obtain ⟨h1, h2⟩ := Bool.and_eq_true_iff.mp (show (decide (ds.length ≤ sizeLine) && ds.all (cpOk n)) = true from h)
      simp [isi_list, isi_tuple]
      refine body ds (of_decide_eq_true h1) h2 _ _ ?_
      simp [cpR, dTuple]
    | .dict [], h =>
      simp [isi_list, isi_tuple, isi_dict, isFn, itemsOf, dDict, prsOf, cpR]
    | .dict [(.str x, .int i)], h =>
      obtain ⟨h1, h2⟩ := Bool.and_eq_true_iff.mp (show (decide (0 < n) && decide (x.length ≤ sizeLine)) = true from h)
      have h2' : x.length ≤ sizeLine := of_decide_eq_true h2
      have rec1 : ∀ cs' : Cs, recM 3 b__law_copied n [.dat (.int i)] cs' = some (.dat (.int i), cs') := fun cs' => copied_eq n (.int i) cs' (by
        cases n with
        | zero => cases h1
        | succ n => rfl)
      have e1 : dDGet (.dict [(.str x, .int i)]) (.str x) = some (.dat (.int i)) := by
        simp [dDGet, isFn, DL.keyOf, look, eqK]
      simp [isi_list, isi_tuple, isi_dict, isFn, itemsOf, h2']
      refine ec_cons ?_
      simp [wipeR, e1]
      refine em_of (rec1 _) ?_
      have two : 2 ≤ sizeLine := two_fit
      simp [two]
      refine ⟨cs, [], ⟨rfl, rfl⟩, rfl, Nat.lt_of_lt_of_le (by decide) (Nat.le_of_eq sizeLine_eq.symm), ?_⟩
      simp [dDict, prsOf, prOf, DL.keyOf, cpR, kD]
    | .none, h => simp [isi_list, isi_tuple, isi_dict, cpR]
    | .bool b, h => simp [isi_list, isi_tuple, isi_dict, cpR]
    | .int i, h => simp [isi_list, isi_tuple, isi_dict, cpR]
    | .str x, h => simp [isi_list, isi_tuple, isi_dict, cpR]

theorem set_set' {cs : Cs} {k : Nat} {a b : Option (List D)} : (cs.set k a).set k b = cs.set k b := by simp
theorem set_app {cs : Cs} {k : Nat} {a : Option (List D)} {t : Cs} (h : k < cs.length) : (cs ++ t).set k a = cs.set k a ++ t := List.set_append_left _ _ h
theorem get_app {cs t : Cs} {k : Nat} {c : List D} (h : cs[k]? = some (some c)) : (cs ++ t)[k]? = some (some c) := by
  rw [List.getElem?_append_left (List.getElem?_eq_some_iff.mp h).1, h]
theorem get_set {cs : Cs} {k : Nat} {c c' : List D} (h : cs[k]? = some (some c)) : (cs.set k (some c'))[k]? = some (some c') := List.getElem?_set_self (List.getElem?_eq_some_iff.mp h).1
/-- [body for turn in range(n)] where each turn draws: cost w a turn, items as P says -/
theorem draws {k n i w : Nat} {b : Int} {ρ : Rho} {f : ME} {P : D → Prop} {cs : Cs} {c : List D} {Q : List D → Cs → Prop} (hc : cs[k]? = some (some c)) (hg : Gs b c) (hn : n ≤ 1000) (hw : (w : Int) * n + b ≤ 10 ^ 20)
    (hf : ∀ (x : D) (b' : Int) (cs' : Cs) (c' : List D) (Q : Rv → Cs → Prop), b' + w ≤ 10 ^ 20 → cs'[k]? = some (some c') → Gs b' c' → (∀ (d : D) (c2 : List D), P d → Gs (b' + w) c2 → Q (.dat d) (cs'.set k (some c2))) → Ev f (ρ.set i (some (.dat x))) cs' Q)
    (h : ∀ (ds : List D) (c' : List D), ds.length = n → (∀ d ∈ ds, P d) → Gs (b + w * n) c' → Q ds (cs.set k (some c'))) : Ec (gNm i) mYes f (rngD 0 n) ρ cs [] Q := by
  have hk := (List.getElem?_eq_some_iff.mp hc).1
  refine ec_inv (k := 0) (fun j acc cs' => ∃ c', acc.length = j ∧ j ≤ n ∧ (∀ d ∈ acc, P d) ∧ Gs (b + w * j) c' ∧ cs' = cs.set k (some c')) ⟨c, rfl, Nat.zero_le _, by simp, by simpa using hg, ?_⟩ ?_ ?_
  · apply List.ext_getElem?
    intro j
    by_cases hj : k = j
    · subst hj
      rw [List.getElem?_set_self hk, hc]
    · rw [List.getElem?_set_ne hj]
  · rintro j d acc cs' hd ⟨c', e1, e2, e3, e4, rfl⟩
    simp only [Nat.zero_add] at e1 e2 e4 ⊢
    have hj : j < n := by
      have := (List.getElem?_eq_some_iff.mp hd).1
      rw [rng_len] at this
      exact this
    have e5 : (w : Int) * (j + 1 : Nat) ≤ w * n := by
      rw [← Int.natCast_mul, ← Int.natCast_mul]
      exact Int.ofNat_le.mpr (Nat.mul_le_mul_left w hj)
    have e6 : (w : Int) * (j + 1 : Nat) = w * j + w := by
      rw [Int.natCast_add, Int.mul_add]
      simp
    rw [eg_gNm, et_mYes, if_pos rfl]
    refine hf d (b + w * j) _ c' _ (by omega) (get_app (get_set hc)) e4 fun x c2 hx hg2 => ?_
    rw [datOf_dat]
    refine ⟨cs.set k (some c2), acc, ?_, by simp, ?_, c2, by simp [e1], hj, ?_, ?_, rfl⟩
    · rw [set_app (by simpa using hk), set_set']
    · rw [sizeLine_eq]
      omega
    · intro y hy
      rcases List.mem_append.mp hy with h1 | h1
      · exact e3 y h1
      · rw [List.mem_singleton.mp h1]; exact hx
    · exact hg2.mono (by omega)
  · rintro acc cs' ⟨c', e1, e2, e3, e4, rfl⟩
    rw [rng_len, Nat.zero_add] at e1 e4
    exact h acc c' e1 e3 e4
def isI (d : D) : Bool := match d with
  | .int _ => true
  | _ => false
theorem sok {ds : List D} (h : (ds.all isS || ds.all isI) = true) : sOk ds = true := by
  unfold sOk
  rw [Bool.and_eq_true, Bool.and_eq_true, Bool.or_eq_true]
  rw [Bool.or_eq_true] at h
  refine ⟨⟨?_, .inr ?_⟩, ?_⟩
  · rw [List.all_eq_true]
    intro d hd
    rw [List.all_eq_true]
    intro e he
    rcases h with h | h
    · have h1 := List.all_eq_true.mp h d hd
      have h2 := List.all_eq_true.mp h e he
      cases d <;> cases e <;> first | rfl | (cases h1; done) | (cases h2; done)
    · have h1 := List.all_eq_true.mp h d hd
      have h2 := List.all_eq_true.mp h e he
      cases d <;> cases e <;> first | rfl | (cases h1; done) | (cases h2; done)
  · rw [List.all_eq_true]
    intro d hd
    rcases h with h | h
    · have h1 := List.all_eq_true.mp h d hd
      cases d <;> first | rfl | (cases h1; done)
    · have h1 := List.all_eq_true.mp h d hd
      cases d <;> first | rfl | (cases h1; done)
  · rw [List.all_eq_true]
    intro d hd
    refine decide_eq_true ?_
    rcases h with h | h
    · have h1 := List.all_eq_true.mp h d hd
      cases d <;> first | exact Nat.zero_le _ | (cases h1; done)
    · have h1 := List.all_eq_true.mp h d hd
      cases d <;> first | exact Nat.zero_le _ | (cases h1; done)
theorem srt_mem {ds : List D} {d : D} : d ∈ srt ds ↔ d ∈ ds := List.mem_mergeSort
theorem srt_len {ds : List D} : (srt ds).length = ds.length := List.length_mergeSort ds
def menuD : List D := [.none, .bool true, .bool false, .int 0, .int 1, .int (-1), .int 100000000000, .str "", .str "a", .str "A", .str "ab", .str "a b", .str "1a", .str "a1", .str " ", .str "a\n", .str (Txt.mul "z" 20), .str (Txt.mul "z" 21), .str "abcdefgh", .str "abcdefghi",
  .list [], .tuple [], .dict [], .list [.int 0], .list [.int 1, .int 0], .list [.int 0, .str "a"], .list [.str "a", .int 0], .list [.none, .int 0], .list [.int 0, .list [.int 1]], .list [.int 0, .tuple [.int 1]], .list [.bool true], .list [.int 0, .int 1], .list [.int 0, .int 0], .tuple [.int 0, .int 1], .list [.str "a"], .list [.list []],
  .dict [(.str "a", .int 1)], .list [.int 1, .int 2, .int 100000000000], .list [.int (-1)], .str "a_b", .str "aB", .str (Txt.mul "a" 200), .str "e0", .str "0", .str "house", .tuple [.str "house"]]
theorem menu_ok : menuD.all (fun d => gdB d && cpOk 6 d) = true := by decide +kernel
theorem dMul_str {z : Str} {k : Int} : dMul (.str z) (.int k) = if 0 ≤ k ∧ k < 2 ^ 31 ∧ z.length * k.toNat ≤ 16777216 then some (.dat (.str (Txt.mul z k))) else none := rfl
theorem mul_z20 : dMul (.str "z") (.int 20) = some (.dat (.str (Txt.mul "z" 20))) := by rw [dMul_str, if_pos (by decide +kernel)]
theorem mul_z21 : dMul (.str "z") (.int 21) = some (.dat (.str (Txt.mul "z" 21))) := by rw [dMul_str, if_pos (by decide +kernel)]
theorem mul_a200 : dMul (.str "a") (.int 200) = some (.dat (.str (Txt.mul "a" 200))) := by rw [dMul_str, if_pos (by decide +kernel)]
theorem dNeg_int {i : Int} : dNeg (.int i) = some (.dat (.int (-i))) := rfl
theorem dPow_11 : dPow (.int 10) (.int 11) = some (.dat (.int 100000000000)) := by
  show (if CPw 10 11 then some (di (10 ^ (11 : Int).toNat)) else none) = _
  rw [if_pos (by decide)]
  rfl
theorem dAdd_list {x y : List D} : dAdd (.list x) (.list y) = if x.length + y.length ≤ sizeLine then some (.fr (x ++ y)) else none := rfl
theorem le_size {n : Nat} (h : n ≤ 16777216) : n ≤ sizeLine := by rw [sizeLine_eq]; exact h
theorem ret_cp {d : D} {n : Nat} {cs : Cs} {Q : Rv → Cs → Prop} (hl : cs.length = n) (q : Q (cpR d) cs) : Ret n (cpR d) cs (DL.Fin n Q) := by
  subst hl
  cases d with
  | list ds =>
    show Ret _ (.fr ds) _ _
    simp
    exact q
  | _ =>
    show Ret _ (.dat _) _ _
    simp
    exact q
theorem any_em {k : Nat} {b : Int} {cs : Cs} {c : List D} {Q : Rv → Cs → Prop} (hc : cs[k]? = some (some c)) (hg : Gs b c) (hb : b ≤ 10 ^ 19) (h : ∀ (d : D) (c' : List D), Gd d → Gs (b + 100) c' → Q (cpR d) (cs.set k (some c'))) : Em m__law_any [.own k] cs Q := by
  unfold m__law_any
  rw [em_fnM]
  unfold b__law_any
  simp [mul_z20, mul_z21, mul_a200, dNeg_int, dPow_11, dAdd_list, le_size]
  refine pick_em hc hg (by omega) (by simp) (by simp) fun d c2 hd g2 => ?_
  have hm : d ∈ menuD := hd
  have hd' := List.all_eq_true.mp menu_ok d hm
  rw [Bool.and_eq_true] at hd'
  simp only [deg_dat]
  refine em_of (copied_eq 6 d _ hd'.2) ?_
  exact ret_cp (by simp) (h d c2 (gdB_ok hd'.1) g2)

end My
/-! NF: pop of an owned list, upper of a text. -/
namespace DL
open PySem PySem.Spec PyProof.Rows L2
section
variable {X : Cx}
/-- x.pop(e), x an owned list -/
def popAt (c : List D) (d : D) : Option (D × List D) := match d with
  | .int j => if -(2 ^ 63) ≤ j ∧ j < 2 ^ 63 then (seqIndex? j c.length).bind fun q => (c[q]?).map fun y => (y, c.eraseIdx q) else none
  | _ => none
def xPop (i : Nat) (fe : ME) : ME := fun ρ cs => (cellOf ρ[i]?).bind fun k => (fe ρ cs).bind fun p => match deg p.1, p.2[k]? with
  | .dat d, some (some c) => (popAt c d).map fun q => (.dat q.1, p.2.set k (some q.2))
  | _, _ => none
theorem rpall_get {K : PySem.W.Frag} {H : Hp} : ∀ {vs : List V} {c : List D}, RpAll K H vs c → ∀ {q : Nat} {y : D}, c[q]? = some y → ∃ v, vs[q]? = some v ∧ Rp K H v y
  | _, _, .nil, _, _, e => by simp at e
  | _, _, .cons a r, 0, _, e => ⟨_, rfl, by simp at e; rw [← e]; exact a⟩
  | _, _, .cons a r, q + 1, _, e => rpall_get r (q := q) (by simpa using e)
theorem rpall_erase {K : PySem.W.Frag} {H : Hp} : ∀ {vs : List V} {c : List D}, RpAll K H vs c → ∀ q : Nat, RpAll K H (vs.eraseIdx q) (c.eraseIdx q)
  | _, _, .nil, _ => .nil
  | _, _, .cons a r, 0 => r
  | _, _, .cons a r, q + 1 => .cons a (rpall_erase r q)
theorem xe_pop {x : Nat} {nm : Str} {e : Expr} {fe : ME} {p1 apos cpos : Pos} (hN : X.N[x]? = some nm) (hv : Vis X.env.scope nm) (he : XE X fe e)
    (hs : starEach [e] X.env = (false, eval e X.env) :: starEach [] X.env := by rfl)
    (hbase : attributeBase (.Name nm p1) "pop" X.env (eval (.Name nm p1) X.env) = eval (.Name nm p1) X.env := by rfl)
    (hfew : ((backTo cpos (starEach [e] X.env)).all (fun x => !x.1) && (backToKw cpos (keywordEach [] X.env)).all (fun x => x.1.isSome)
      && decide ([e].length + ([] : List Keyword).length + (if ([] : List Keyword).isEmpty then 0 else 1) < 30)) = true := by rfl)
    (hline : (apos.endLine == cpos.line) = true := by rfl) (hplain : (backTo cpos (starEach [] X.env)).any (·.1) = false := by rfl)
    (hd : (nm == ("__debug__" : Str)) = false := by decide) (hcd : (nm == ("__classdict__" : Str)) = false := by decide) :
    XE X (xPop x fe) (.Call (.Attribute (.Name nm p1) "pop" apos) [e] [] cpos) :=
  pe_weak (pe_bm PySem.F.plainAttrs_list PySem.F.slot_list_pop PySem.F.type_list_pop mt_popAt (pe_var hN hv hd hcd) (pa_cons he pa_nil hs) hbase hfew hline hs hplain) fun σ H Q ⟨ρ, O, cs, r, cs', e0, en, w, p⟩ => by
    obtain ⟨k, g2, e2⟩ := Option.bind_eq_some_iff.mp e0
    obtain ⟨⟨r0, cs1⟩, g3, e3⟩ := Option.bind_eq_some_iff.mp e2
    clear e0 e2
    obtain ⟨u, q1, a, rfl, q2⟩ := en.slot x _ (cellOf_some g2)
    obtain ⟨c0, vs0, h0, h1, h2⟩ := w.cell k a q2
    refine ⟨_, q1, .inl ⟨rfl, _, .inl (.inl h1)⟩, ρ, O, cs, r0, cs1, g3, en, w, fun v H1 c1 w1 rv => ?_⟩
    have rr := rv.deg
    dsimp only at e3
    split at e3
    · rename_i d c hd' hc'
      obtain ⟨⟨y, c2⟩, hp, e4⟩ := Option.map_eq_some_iff.mp e3
      cases e4
      rw [hd'] at rr
      obtain ⟨c', vs, h5, h6, h7⟩ := w1.cell k a q2
      rw [hc'] at h5; cases h5
      unfold popAt at hp
      split at hp
      · rename_i j
        obtain ⟨hj, hp⟩ := ite_none hp
        obtain ⟨q, hq, hp⟩ := Option.bind_eq_some_iff.mp hp
        obtain ⟨y', hy, hp⟩ := Option.map_eq_some_iff.mp hp
        cases hp
        obtain ⟨vy, hvy, ry⟩ := rpall_get h7 hy
        obtain ⟨w3, c3⟩ := w1.write q2 (rpall_erase h7 q)
        have ev : v = .int j := by
          have rr' : Rp X.K (DL.hd O H1) v (.int j) := rr
          cases rr'
          rfl
        subst ev
        refine ⟨a, vs, j, q, vy, rfl, rfl, h6, hj.1, hj.2, by rw [h7.length]; exact hq, hvy, ?_⟩
        exact p _ _ (c1.trans c3) w3 (show Rp X.K (DL.hd O _) vy y from ry.mono c3.data)
      · cases hp
    · cases e3
/-- x.upper() of a text -/
def dUp : D → Option Rv
  | .str z => if z.length ≤ 5592405 then some (.dat (.str (Txt.upper z))) else none
  | _ => none
theorem xe_upper {e : Expr} {fe : ME} {p1 p2 : Pos} (he : XE X fe e) (hbase : attributeBase e "upper" X.env (eval e X.env) = eval e X.env := by rfl) (hline : (p1.endLine == p2.line) = true := by rfl) :
    XE X (mU dUp fe) (.Call (.Attribute e "upper" p1) [] [] p2) := by
  refine ⟨fun pins s σ H Q I ⟨ρ, O, cs, r, cs', e0, en, w, pq⟩ => ?_⟩
  obtain ⟨x, d, h1, h2, h3⟩ := mU_some e0
  unfold dUp at h3
  split at h3
  · rename_i z
    obtain ⟨hz, rfl⟩ := ite_some h3
    have hx : deg x = .dat (.str z) := by
      cases x with
      | dat d' =>
        have e : d' = .str z := Option.some.inj h2
        rw [e]
        rfl
      | ft d' =>
        have e : d' = .str z := Option.some.inj h2
        rw [e]
        rfl
      | own k =>
        exfalso
        unfold rd deg at h2
        cases q : cs'[k]? with
        | none => simp [q] at h2
        | some o => cases o <;> simp [q] at h2
      | fr c =>
        have e : PyData.list c = .str z := Option.some.inj h2
        cases e
      | exn nm d' => cases h2
      | gr d' k n => cases h2
    refine J1.ev_upper hbase hline (thn (he.run pins s σ H (fun v H' => v = .str z ∧ Q (.str (Txt.upper z)) H') I ⟨ρ, O, cs, _, cs', h1, en, w, fun v H' c' w' rv => ?_⟩) ?_)
    · have rv' : Rp X.K (DL.hd O H') v (.str z) := by
        have := rv.deg
        rw [hx] at this
        exact this
      have ev : v = .str z := by
        cases rv'
        rfl
      refine ⟨ev, pq _ _ c' w' ?_⟩
      exact Rp.str _ (by have := PyProof.Rows.len_upper z; rw [sizeLine_eq]; omega)
    · rintro v s1 ⟨x, H1, I1, rx, rfl, q⟩
      obtain ⟨t, rfl⟩ := rx
      exact ⟨z, t, rfl, hz, fun t' k => ⟨.str _, H1, I1.tok k, ⟨t', rfl⟩, q⟩⟩
  · cases h3
end
end DL
/-! GR: fresh trees of lists, and groups of owned lists. -/
namespace DL
open PySem PySem.Spec PyProof.Rows L2
section
variable {K : PySem.W.Frag} {O : List (Option Addr)} {H H' : Hp}
mutual
theorem Rp.keep (h : ∀ a xs, SqT K H a xs → SqT K H' a xs) : ∀ {v : V} {d : D}, Rp K H v d → noL d = true → Rp K H' v d
  | _, _, .non, _ => .non
  | _, _, .bl b, _ => .bl b
  | _, _, .int i, _ => .int i
  | _, _, .str x z, _ => .str x z
  | _, _, .lst q r, e => by unfold noL at e; cases e
  | _, _, .tup q r, e => by unfold noL at e; exact .tup (h _ _ q) (RpAll.keep h r e)
  | _, _, .dct q e1 r, e => by unfold noL at e; cases e
  | _, _, .fn q, e => by unfold noL at e; cases e
theorem RpAll.keep (h : ∀ a xs, SqT K H a xs → SqT K H' a xs) : ∀ {vs : List V} {ds : List D}, RpAll K H vs ds → noLs ds = true → RpAll K H' vs ds
  | _, _, .nil, _ => .nil
  | _, _, .cons a r, e => by
    unfold noLs at e
    obtain ⟨e1, e2⟩ := Bool.and_eq_true_iff.mp e
    exact .cons (Rp.keep h a e1) (RpAll.keep h r e2)
end
mutual
theorem lsh_no : ∀ {v : V} {d : D}, Rp K H v d → noL d = true → LSh K H d v []
  | _, _, .non, _ => by unfold LSh; exact ⟨.non, rfl⟩
  | _, _, .bl b, _ => by unfold LSh; exact ⟨.bl b, rfl⟩
  | _, _, .int i, _ => by unfold LSh; exact ⟨.int i, rfl⟩
  | _, _, .str x z, _ => by unfold LSh; exact ⟨.str x z, rfl⟩
  | _, _, .lst q r, e => by unfold noL at e; cases e
  | _, _, .tup q r, e => by
    unfold noL at e
    unfold LSh
    exact ⟨_, _, rfl, q, lshs_no r e⟩
  | _, _, .dct q e1 r, e => by unfold noL at e; cases e
  | _, _, .fn q, e => by unfold noL at e; cases e
theorem lshs_no : ∀ {vs : List V} {ds : List D}, RpAll K H vs ds → noLs ds = true → LShs K H ds vs []
  | _, _, .nil, _ => by unfold LShs; rfl
  | _, _, .cons a r, e => by
    unfold noLs at e
    obtain ⟨e1, e2⟩ := Bool.and_eq_true_iff.mp e
    unfold LShs
    exact ⟨[], [], rfl, lsh_no a e1, lshs_no r e2⟩
end
mutual
theorem flats_no : ∀ (d : D), noL d = true → flats d = []
  | .none, _ => by unfold flats; rfl
  | .bool _, _ => by unfold flats; rfl
  | .int _, _ => by unfold flats; rfl
  | .str _, _ => by unfold flats; rfl
  | .list _, e => by unfold noL at e; cases e
  | .dict _, e => by unfold noL at e; cases e
  | .tuple ds, e => by unfold noL at e; unfold flats; exact flatsA_no ds e
theorem flatsA_no : ∀ (ds : List D), noLs ds = true → flatsA ds = []
  | [], _ => by unfold flatsA; rfl
  | d :: ds, e => by
    unfold noLs at e
    obtain ⟨e1, e2⟩ := Bool.and_eq_true_iff.mp e
    unfold flatsA
    rw [flats_no d e1, flatsA_no ds e2]
    rfl
end
/-- a value whose lists are new, as data -/
def trD : Rv → Option D
  | .dat d => if noL d = true then some d else none
  | .fr c => if noLs c = true then some (.list c) else none
  | .ft d => some d
  | _ => none
theorem ft_of {cs' : Cs} {r : Rv} {v : V} {d : D} (h : RvR K O H cs' r v H') (w : Wd K O cs' H') (e : trD r = some d) : FtA K O (fun a => H a = none) d v H' := by
  cases r with
  | dat d' =>
    obtain ⟨h1, h2⟩ := ite_some e
    subst h2
    exact ⟨h, [], lsh_no h h1, List.nodup_nil, nofun, by rw [flats_no _ h1]; exact ⟨rfl, fun i a z => by simp at z⟩⟩
  | fr c =>
    obtain ⟨h1, h2⟩ := ite_some e
    subst h2
    obtain ⟨p, rfl, hp, w2⟩ := h
    obtain ⟨h3, h4, h5⟩ := w2.pop
    obtain ⟨c', vs, q1, q2, q3⟩ := w2.cell O.length p (by simp)
    rw [← w.len] at q1
    simp at q1
    subst q1
    refine ⟨h4, [p], by unfold LSh; rw [if_pos h1]; exact ⟨p, rfl, rfl⟩, by simp, fun a ha => ?_, ?_⟩
    · rw [List.mem_singleton.mp ha]
      exact ⟨hp, h5⟩
    · refine ⟨by unfold flats; rw [if_pos h1]; rfl, fun i a z => ?_⟩
      cases i with
      | zero =>
        simp at z
        subst z
        exact ⟨c, vs, by unfold flats; rw [if_pos h1]; rfl, q2, q3.mono hd_app⟩
      | succ i => simp at z
  | ft d' => cases e; exact h
  | own k => cases e
  | exn nm d' => cases e
  | gr d' k n => cases e
def FtAs (K : PySem.W.Frag) (O : List (Option Addr)) (N : Addr → Prop) (ds : List D) (vs : List V) (H' : Hp) : Prop := RpAll K (hd O H') vs ds ∧ ∃ as : List Addr, LShs K (hd O H') ds vs as ∧ as.Nodup ∧ (∀ a ∈ as, N a ∧ a ∉ live O) ∧ Cont K (hd O H') H' as (flatsA ds)
theorem ftAs_nil {N : Addr → Prop} : FtAs K O N [] [] H := ⟨.nil, [], by unfold LShs; rfl, List.nodup_nil, nofun, by unfold flatsA; exact ⟨rfl, fun i a z => by simp at z⟩⟩
theorem ftAs_cons {cs1 : Cs} {H1 H2 : Hp} {d : D} {ds : List D} {v : V} {vs : List V} (w1 : Wd K O cs1 H1) (c1 : Ch O H H1) (c2 : Ch O H1 H2) (a : FtA K O (fun a => H a = none) d v H1) (b : FtAs K O (fun a => H1 a = none) ds vs H2) :
    FtAs K O (fun a => H a = none) (d :: ds) (v :: vs) H2 := by
  obtain ⟨a1, as, a2, a3, a4, a5⟩ := a
  obtain ⟨b1, bs, b2, b3, b4, b5⟩ := b
  refine ⟨.cons (a1.mono c2.data) b1, as ++ bs, by unfold LShs; exact ⟨as, bs, rfl, a2.mono c2.data, b2⟩, ?_, fun x hx => ?_, ?_⟩
  · refine List.nodup_append.mpr ⟨a3, b3, fun x hx y hy e => ?_⟩
    subst e
    obtain ⟨i, hi⟩ := List.mem_iff_getElem?.mp hx
    obtain ⟨c, vs', _, q, _⟩ := a5.2 i x hi
    rw [(b4 x hy).1] at q
    cases q
  · rcases List.mem_append.mp hx with q | q
    · exact a4 x q
    · obtain ⟨q1, q2⟩ := b4 x q
      refine ⟨?_, q2⟩
      show H x = none
      cases z : H x with
      | none => rfl
      | some o =>
        have := c1 x o (w1.fresh q1) z
        rw [q1] at this; cases this
  · have ef : flatsA (d :: ds) = flats d ++ flatsA ds := by rw [flatsA]
    rw [ef]
    refine ⟨by rw [List.length_append, List.length_append, a5.1, b5.1], fun i x hi => ?_⟩
    by_cases hl : i < as.length
    · rw [List.getElem?_append_left hl] at hi
      obtain ⟨c, vs', q1, q2, q3⟩ := a5.2 i x hi
      exact ⟨c, vs', by rw [List.getElem?_append_left (by rw [← a5.1]; exact hl)]; exact q1, c2 x _ (a4 x (List.mem_of_getElem? hi)).2 q2, q3.mono c2.data⟩
    · rw [List.getElem?_append_right (by omega)] at hi
      obtain ⟨c, vs', q1, q2, q3⟩ := b5.2 _ x hi
      exact ⟨c, vs', by rw [List.getElem?_append_right (by rw [← a5.1]; omega), ← a5.1]; exact q1, q2, q3⟩
end
section
variable {X : Cx}
/-! ### displays of fresh trees -/
abbrev MAt := Rho → Cs → Option (List D × Cs)
def tnil : MAt := fun _ cs => some ([], cs)
def tcons (fa : ME) (fr : MAt) : MAt := fun ρ cs => (fa ρ cs).bind fun p => (trD p.1).bind fun d => (fr ρ p.2).map fun q => (d :: q.1, q.2)
def tXAt (K : PySem.W.Frag) (f : MAt) : TA := fun σ H Q => ∃ ρ O cs ds cs', f ρ cs = some (ds, cs') ∧ EnvOk K O H ρ σ ∧ Wd K O cs H ∧ ∀ vs H', Ch O H H' → Wd K O cs' H' → FtAs K O (fun a => H a = none) ds vs H' → Q vs H'
def XAt (X : Cx) (f : MAt) (es : List Expr) : Prop := PA X es (tXAt X.K f)
theorem xat_nil : XAt X tnil [] := pa_weak pa_nil fun σ H Q ⟨ρ, O, cs, ds, cs', e, en, w, p⟩ => by
  cases e
  exact p [] H .refl w ftAs_nil
theorem xat_cons {e : Expr} {es : List Expr} {fa : ME} {fr : MAt} (ha : XE X fa e) (hr : XAt X fr es) (hs : starEach (e :: es) X.env = (false, eval e X.env) :: starEach es X.env := by rfl) : XAt X (tcons fa fr) (e :: es) :=
  pa_weak (pa_cons ha hr hs) fun σ H Q ⟨ρ, O, cs, rs, cs', e0, en, w, p⟩ => by
    obtain ⟨⟨x, cs1⟩, h1, e1⟩ := Option.bind_eq_some_iff.mp e0
    obtain ⟨d, h2, e2⟩ := Option.bind_eq_some_iff.mp e1
    obtain ⟨⟨ds, cs2⟩, h3, e3⟩ := Option.map_eq_some_iff.mp e2
    cases e3
    exact ⟨ρ, O, cs, x, cs1, h1, en, w, fun v1 H1 c1 w1 r1 => ⟨ρ, O, cs1, ds, _, h3, en.ch c1, w1, fun vs H2 c2 w2 r2 => p _ H2 (c1.trans c2) w2 (ftAs_cons w1 c1 c2 (ft_of r1 w1 h2) r2)⟩⟩
def mTupT (f : MAt) : ME := fun ρ cs => (f ρ cs).bind fun p => if p.1.length ≤ sizeLine then some (.ft (.tuple p.1), p.2) else none
theorem xe_tupT {es : List Expr} {f : MAt} {pos : Pos} {x1} (ha : XAt X f es) : XE X (mTupT f) (.Tuple es x1 pos) :=
  pe_weak (pe_tup ha) fun σ H Q ⟨ρ, O, cs, z, cs', e, en, w, p⟩ => by
    obtain ⟨⟨ds, cs1⟩, h1, h2⟩ := Option.bind_eq_some_iff.mp e
    obtain ⟨hz, h3⟩ := ite_none h2
    cases h3
    refine ⟨ρ, O, cs, ds, _, h1, en, w, fun vs H1 c1 w1 ⟨r1, as, r2, r3, r4, r5⟩ => ⟨by rw [r1.length]; exact hz, fun q hq => ?_⟩⟩
    have cn : Ch O H1 (upd H1 q (.tup vs)) := ch_new hq
    have qn : q ∉ live O := w1.fresh hq
    have tq : SqT X.K (DL.hd O (upd H1 q (.tup vs))) q vs := .inl (.inl (hd_of qn upd_same))
    refine p _ _ (c1.trans cn) (w1.new hq) ⟨.tup tq (r1.mono cn.data), as, by unfold LSh; exact ⟨q, vs, rfl, tq, r2.mono cn.data⟩, r3, r4, ?_⟩
    have ef : flats (.tuple ds) = flatsA ds := by rw [flats]
    rw [ef]
    exact ⟨r5.1, fun i a hi => by
      obtain ⟨c, vs', q1, q2, q3⟩ := r5.2 i a hi
      exact ⟨c, vs', q1, cn a _ (r4 a (List.mem_of_getElem? hi)).2 q2, q3.mono cn.data⟩⟩
end
end DL
/-! GR2: groups of owned lists: binding, reading. -/
namespace DL
open PySem PySem.Spec PyProof.Rows L2
def addO (O : List (Option Addr)) (as : List Addr) : List (Option Addr) := O ++ as.map some
theorem live_add {O : List (Option Addr)} {as : List Addr} {a : Addr} : a ∈ live (addO O as) ↔ a ∈ live O ∨ a ∈ as := by
  unfold live addO
  rw [List.filterMap_append, List.mem_append]
  refine or_congr Iff.rfl ?_
  rw [List.filterMap_map]
  simp
def okCs (cs : Cs) : Bool := cs.all fun c => match c with
  | some l => noLs l
  | none => true
section
variable {K : PySem.W.Frag} {O : List (Option Addr)} {H H' : Hp} {cs : Cs}
theorem okCs_get (h : okCs cs = true) {i : Nat} {c : List D} (e : cs[i]? = some (some c)) : noLs c = true := List.all_eq_true.mp h (some c) (List.mem_of_getElem? e)
/-- hiding lists hides no tuple -/
theorem sqT_hide {as : List Addr} (hl : ∀ a ∈ as, ∃ vs, H a = some (.lst vs)) {t : Addr} {xs : List V} (q : SqT K (hd O H) t xs) : SqT K (hd (addO O as) H) t xs := by
  have one : ∀ u, (∀ vs, u ≠ .lst vs) → hd O H t = some u → hd (addO O as) H t = some u := fun u hu e => by
    obtain ⟨n, e1⟩ := hd_some e
    refine hd_of (fun z => ?_) e1
    rcases live_add.mp z with z | z
    · exact n z
    · obtain ⟨vs, e2⟩ := hl t z
      rw [e1] at e2
      exact hu vs (Option.some.inj e2)
  rcases q with (q | ⟨o, q⟩) | q
  · exact .inl (.inl (one _ nofun q))
  · exact .inl (.inr ⟨o, one _ nofun q⟩)
  · exact .inr q
mutual
theorem lsh_hide {as : List Addr} (hl : ∀ a ∈ as, ∃ vs, H a = some (.lst vs)) : ∀ (d : D) (v : V) (bs : List Addr), flT d = true → LSh K (hd O H) d v bs → LSh K (hd (addO O as) H) d v bs
  | .list c, v, bs, f, q => by
    unfold flT at f
    unfold LSh at q ⊢
    rw [if_pos f] at q ⊢
    exact q
  | .tuple ds, v, bs, f, q => by
    unfold flT at f
    unfold LSh at q ⊢
    obtain ⟨t, vs, e, q1, q2⟩ := q
    exact ⟨t, vs, e, sqT_hide hl q1, lshs_hide hl ds vs bs f q2⟩
  | .none, v, bs, _, q => by unfold LSh at q ⊢; exact ⟨q.1.keep (fun _ _ z => sqT_hide hl z) (by unfold noL; rfl), q.2⟩
  | .bool _, v, bs, _, q => by unfold LSh at q ⊢; exact ⟨q.1.keep (fun _ _ z => sqT_hide hl z) (by unfold noL; rfl), q.2⟩
  | .int _, v, bs, _, q => by unfold LSh at q ⊢; exact ⟨q.1.keep (fun _ _ z => sqT_hide hl z) (by unfold noL; rfl), q.2⟩
  | .str _, v, bs, _, q => by unfold LSh at q ⊢; exact ⟨q.1.keep (fun _ _ z => sqT_hide hl z) (by unfold noL; rfl), q.2⟩
  | .dict _, v, bs, _, q => by unfold LSh at q; exact q.elim
theorem lshs_hide {as : List Addr} (hl : ∀ a ∈ as, ∃ vs, H a = some (.lst vs)) : ∀ (ds : List D) (vs : List V) (bs : List Addr), flTs ds = true → LShs K (hd O H) ds vs bs → LShs K (hd (addO O as) H) ds vs bs
  | [], [], bs, _, q => by unfold LShs at q ⊢; exact q
  | d :: ds, v :: vs, bs, f, q => by
    unfold flTs at f
    obtain ⟨f1, f2⟩ := Bool.and_eq_true_iff.mp f
    unfold LShs at q ⊢
    obtain ⟨a1, a2, e, q1, q2⟩ := q
    exact ⟨a1, a2, e, lsh_hide hl d v a1 f1 q1, lshs_hide hl ds vs a2 f2 q2⟩
  | [], _ :: _, bs, _, q => by unfold LShs at q; exact q.elim
  | _ :: _, [], bs, _, q => by unfold LShs at q; exact q.elim
end
/-- lists become owned cells -/
theorem Wd.adopt {as : List Addr} {cells : List (List D)} (w : Wd K O cs H) (nd : as.Nodup) (hn : ∀ a ∈ as, a ∉ live O) (ct : Cont K (hd O H) H as cells) (fl : cells.all noLs = true) (ok : okCs cs = true) : Wd K (addO O as) (cs ++ cells.map some) H := by
  have hl : ∀ a ∈ as, ∃ vs, H a = some (.lst vs) := fun a ha => by
    obtain ⟨i, hi⟩ := List.mem_iff_getElem?.mp ha
    obtain ⟨c, vs, _, q, _⟩ := ct.2 i a hi
    exact ⟨vs, q⟩
  have keep : ∀ {vs : List V} {c : List D}, RpAll K (hd O H) vs c → noLs c = true → RpAll K (hd (addO O as) H) vs c := fun r e => r.keep (fun _ _ q => sqT_hide hl q) e
  have sp : ∀ {i : Nat} {x : Option Addr}, (addO O as)[i]? = some x → (i < O.length ∧ O[i]? = some x) ∨ (O.length ≤ i ∧ ∃ a, x = some a ∧ as[i - O.length]? = some a) := fun {i x} q => by
    unfold addO at q
    by_cases hi : i < O.length
    · rw [List.getElem?_append_left hi] at q
      exact .inl ⟨hi, q⟩
    · rw [List.getElem?_append_right (by omega), List.getElem?_map] at q
      obtain ⟨a, q1, q2⟩ := Option.map_eq_some_iff.mp q
      exact .inr ⟨by omega, a, q2.symm, q1⟩
  refine ⟨by unfold addO; simp [w.len, ct.1], fun i j a h1 h2 => ?_, fun i a h => ?_, fun i h => ?_⟩
  · rcases sp h1 with ⟨i1, i2⟩ | ⟨i1, b, i2, i3⟩ <;> rcases sp h2 with ⟨j1, j2⟩ | ⟨j1, b', j2, j3⟩
    · exact w.inj i j a i2 j2
    · cases j2
      exact absurd (mem_live.mpr ⟨i, i2⟩) (hn _ (List.mem_of_getElem? j3))
    · cases i2
      exact absurd (mem_live.mpr ⟨j, j2⟩) (hn _ (List.mem_of_getElem? i3))
    · cases i2
      cases j2
      have := (List.getElem?_inj (List.getElem?_eq_some_iff.mp i3).1 nd).mp (i3.trans j3.symm)
      omega
  · rcases sp h with ⟨i1, i2⟩ | ⟨i1, b, i2, i3⟩
    · obtain ⟨c, vs, q1, q2, q3⟩ := w.cell i a i2
      exact ⟨c, vs, by rw [List.getElem?_append_left (by rw [w.len]; exact i1)]; exact q1, q2, keep q3 (okCs_get ok q1)⟩
    · cases i2
      obtain ⟨c, vs, q1, q2, q3⟩ := ct.2 _ _ i3
      refine ⟨c, vs, ?_, q2, keep q3 (List.all_eq_true.mp fl c (List.mem_of_getElem? q1))⟩
      rw [List.getElem?_append_right (by rw [w.len]; exact i1), List.getElem?_map, w.len, q1]
      rfl
  · rcases sp h with ⟨i1, i2⟩ | ⟨i1, b, i2, i3⟩
    · rw [List.getElem?_append_left (by rw [w.len]; exact i1)]
      exact w.ded i i2
    · cases i2
mutual
theorem flats_fl : ∀ (d : D), (flats d).all noLs = true
  | .list c => by
    unfold flats
    split
    · rename_i z
      simp [z]
    · exact flatsA_fl c
  | .tuple ds => by unfold flats; exact flatsA_fl ds
  | .none => by unfold flats; rfl
  | .bool _ => by unfold flats; rfl
  | .int _ => by unfold flats; rfl
  | .str _ => by unfold flats; rfl
  | .dict _ => by unfold flats; rfl
theorem flatsA_fl : ∀ (ds : List D), (flatsA ds).all noLs = true
  | [] => by unfold flatsA; rfl
  | d :: ds => by
    unfold flatsA
    rw [List.all_append, flats_fl d, flatsA_fl ds]
    rfl
end
theorem ext_add {n0 : Nat} {as : List Addr} (hn : n0 ≤ O.length) (h : ∀ a ∈ as, H a = none) : Ext n0 O (addO O as) H := ⟨fun i hi => by unfold addO; exact List.getElem?_append_left (by omega), fun a ha => (live_add.mp ha).imp id (h a)⟩
/-- name = a fresh tree: a group of owned lists -/
def sGrp (i : Nat) (f : ME) : MS := fun _ ρ cs => (f ρ cs).bind fun p => match p.1 with
  | .ft d => if (flT d && okCs p.2) = true then some (.nx (ρ.set i (some (.gr d p.2.length (flats d).length))) (p.2 ++ (flats d).map some)) else none
  | _ => none
theorem tGrp_of {i : Nat} {f : ME} {D : Ends} {σ : L2.St} {H : Hp} (h : tS K (sGrp i f) D σ H) : tAsg (tX K f) (gName i) D σ H := by
  obtain ⟨n0, ρ, O, cs, out, e0, hn, en, w, p⟩ := h
  obtain ⟨⟨r, cs1⟩, h1, h2⟩ := Option.bind_eq_some_iff.mp e0
  refine ⟨ρ, O, cs, r, cs1, h1, en, w, fun v H' c w' rv => ?_⟩
  cases r with
  | ft d =>
    obtain ⟨hz, h3⟩ := ite_some h2
    subst h3
    obtain ⟨z1, z2⟩ := Bool.and_eq_true_iff.mp hz
    obtain ⟨q1, as, q2, q3, q4, q5⟩ := rv
    have hl : ∀ a ∈ as, ∃ vs, H' a = some (.lst vs) := fun a ha => by
      obtain ⟨i, hi⟩ := List.mem_iff_getElem?.mp ha
      obtain ⟨c, vs, _, q, _⟩ := q5.2 i a hi
      exact ⟨vs, q⟩
    have wa := w'.adopt q3 (fun a ha => (q4 a ha).2) q5 (flats_fl _) z2
    have ex : Ext O.length O (addO O as) H := ext_add (Nat.le_refl _) fun a ha => (q4 a ha).1
    refine p _ (addO O as) H' (ex.low hn) c ((en.extO ex c).set i ⟨as, q5.1, fun j a hj => ?_, lsh_hide hl _ _ _ z1 q2⟩) wa
    unfold addO
    rw [List.getElem?_append_right (by rw [w'.len]; omega), w'.len, show O.length + j - O.length = j by omega, List.getElem?_map, hj]
    rfl
  | _ => cases h2
end
section
variable {X : Cx}
theorem xs_grp {i : Nat} {x : Str} {e : Expr} {f : ME} {pos pos' : Pos} (hN : X.N.Nodup) (hi : X.N[i]? = some x) (hx : Loc X.env.scope x) (he : XE X f e) (hs : swapsWith e (some (.Name x pos')) pos.line X.env = pure false := by rfl)
    (hf : X.fn x = true ∨ X.env.scope.names.lookup x = some .local := by first | exact .inl rfl | exact .inr rfl) : XS X (sGrp i f) (.Assign [.Name x pos'] e pos) := ps_weak (ps_set hN hi hx he hs hf) fun D σ H h => tGrp_of h
end
end DL
/-! GR3: an expression that reads a group as data; its result holds no list. -/
namespace DL
open PySem PySem.Spec PyProof.Rows L2
def inG (k n i : Nat) : Bool := decide (k ≤ i) && decide (i < k + n)
def offL {α : Type} (l : List (Option α)) (k n : Nat) : List (Option α) := l.mapIdx fun i x => if inG k n i = true then none else x
def backC (cs1 cs : Cs) (k n : Nat) : Cs := cs1.mapIdx fun i x => if inG k n i = true then cs[i]?.join else x
theorem off_get {α : Type} {l : List (Option α)} {k n i : Nat} : (offL l k n)[i]? = if inG k n i = true then l[i]?.map (fun _ => none) else l[i]? := by
  unfold offL
  rw [List.getElem?_mapIdx]
  split
  · rfl
  · cases l[i]? <;> rfl
theorem back_get {cs1 cs : Cs} {k n i : Nat} : (backC cs1 cs k n)[i]? = if inG k n i = true then cs1[i]?.map (fun _ => cs[i]?.join) else cs1[i]? := by
  unfold backC
  rw [List.getElem?_mapIdx]
  split
  · rfl
  · cases cs1[i]? <;> rfl
/-- the slots, when the cells from k on are given away -/
def hidR (k n : Nat) (ρ : Rho) : Rho := ρ.map fun r => match r with
  | some (.own j) => if inG k n j = true then none else some (.own j)
  | some (.gr _ _ _) => none
  | r => r
open Classical in
/-- as it is read: its data, and its cells -/
noncomputable def borR (r : Rv) (cs : Cs) : Option (D × Nat × Nat) := match r with
  | .own k => match cs[k]? with
    | some (some c) => some (.list c, k, 1)
    | _ => none
  | .gr d k n => if (cs.drop k).take n = (flats d).map some ∧ n = (flats d).length then some (d, k, n) else none
  | _ => none
section
variable {K : PySem.W.Frag} {O : List (Option Addr)} {H H' : Hp} {cs : Cs}
structure Hid (K : PySem.W.Frag) (O : List (Option Addr)) (H : Hp) (cs : Cs) (k n : Nat) (as : List Addr) : Prop where
  len : as.length = n
  at_ : ∀ (i : Nat) (a : Addr), as[i]? = some a → O[k + i]? = some (some a)
theorem Hid.mem {k n : Nat} {as : List Addr} (h : Hid K O H cs k n as) {j : Nat} (hj : inG k n j = true) : ∃ a, a ∈ as ∧ O[j]? = some (some a) := by
  unfold inG at hj
  rw [Bool.and_eq_true, decide_eq_true_iff, decide_eq_true_iff] at hj
  have hl : j - k < as.length := by rw [h.len]; omega
  have := h.at_ (j - k) as[j - k] (List.getElem?_eq_getElem hl)
  rw [show k + (j - k) = j by omega] at this
  exact ⟨_, List.getElem_mem hl, this⟩
theorem Hid.live1 {k n : Nat} {a : Addr} (h : a ∈ live (offL O k n)) : a ∈ live O := by
  obtain ⟨i, q⟩ := mem_live.mp h
  rw [off_get] at q
  split at q
  · cases z : O[i]? <;> rw [z] at q <;> cases q
  · exact mem_live.mpr ⟨i, q⟩
theorem Hid.live2 {k n : Nat} {as : List Addr} (h : Hid K O H cs k n as) {a : Addr} (q : a ∈ live O) : a ∈ live (offL O k n) ∨ a ∈ as := by
  obtain ⟨i, q⟩ := mem_live.mp q
  cases z : inG k n i with
  | true =>
    obtain ⟨b, hb, e⟩ := h.mem z
    rw [q] at e
    cases e
    exact .inr hb
  | false => exact .inl (mem_live.mpr ⟨i, by rw [off_get, z]; exact q⟩)
theorem Hid.no {k n : Nat} {as : List Addr} (w : Wd K O cs H) (h : Hid K O H cs k n as) {a : Addr} (ha : a ∈ as) : a ∉ live (offL O k n) := fun z => by
  obtain ⟨i, hi⟩ := List.mem_iff_getElem?.mp ha
  have e := h.at_ i a hi
  obtain ⟨j, q⟩ := mem_live.mp z
  rw [off_get] at q
  split at q
  · cases y : O[j]? <;> rw [y] at q <;> cases q
  · rename_i nj
    have := w.inj j (k + i) a q e
    apply nj
    have hl : i < n := by rw [← h.len]; exact (List.getElem?_eq_some_iff.mp hi).1
    unfold inG
    rw [Bool.and_eq_true, decide_eq_true_iff, decide_eq_true_iff]
    omega
theorem Hid.sub {k n : Nat} : ∀ a o, hd O H a = some o → hd (offL O k n) H a = some o := fun a o q => by
  obtain ⟨m, e⟩ := hd_some q
  exact hd_of (fun z => m (Hid.live1 z)) e
theorem Hid.wd {k n : Nat} {as : List Addr} (w : Wd K O cs H) (h : Hid K O H cs k n as) : Wd K (offL O k n) (offL cs k n) H := by
  refine ⟨by unfold offL; simp [w.len], fun i j a h1 h2 => ?_, fun i a h1 => ?_, fun i h1 => ?_⟩
  · rw [off_get] at h1 h2
    split at h1
    · cases z : O[i]? <;> rw [z] at h1 <;> cases h1
    · split at h2
      · cases z : O[j]? <;> rw [z] at h2 <;> cases h2
      · exact w.inj i j a h1 h2
  · rw [off_get] at h1
    split at h1
    · cases z : O[i]? <;> rw [z] at h1 <;> cases h1
    · rename_i nj
      obtain ⟨c, vs, q1, q2, q3⟩ := w.cell i a h1
      exact ⟨c, vs, by rw [off_get, if_neg nj]; exact q1, q2, q3.mono Hid.sub⟩
  · rw [off_get] at h1 ⊢
    split at h1
    · rename_i yj
      rw [if_pos yj]
      obtain ⟨a, _, e⟩ := h.mem yj
      have : i < cs.length := by rw [w.len]; exact (List.getElem?_eq_some_iff.mp e).1
      rw [List.getElem?_eq_getElem this]
      rfl
    · rename_i nj
      rw [if_neg nj]
      exact w.ded i h1
/-- lists hidden once more -/
theorem Hid.tup {k n : Nat} {as : List Addr} (h : Hid K O H cs k n as) (hl : ∀ a ∈ as, ∃ vs, H' a = some (.lst vs)) {t : Addr} {xs : List V} (q : SqT K (hd (offL O k n) H') t xs) : SqT K (hd O H') t xs := by
  have one : ∀ u, (∀ vs, u ≠ .lst vs) → hd (offL O k n) H' t = some u → hd O H' t = some u := fun u hu e => by
    obtain ⟨m, e1⟩ := hd_some e
    refine hd_of (fun z => ?_) e1
    rcases h.live2 z with z | z
    · exact m z
    · obtain ⟨vs, e2⟩ := hl t z
      rw [e1] at e2
      exact hu vs (Option.some.inj e2)
  rcases q with (q | ⟨o, q⟩) | q
  · exact .inl (.inl (one _ nofun q))
  · exact .inl (.inr ⟨o, one _ nofun q⟩)
  · exact .inr q
/-- the cells are taken back -/
theorem Hid.back {k n : Nat} {as : List Addr} {cs1 : Cs} (w : Wd K O cs H) (h : Hid K O H cs k n as) (c : Ch (offL O k n) H H') (w1 : Wd K (offL O k n) cs1 H') (ok : okCs cs1 = true) : Ch O H H' ∧ Wd K O (backC cs1 cs k n) H' ∧ ∀ a ∈ as, ∃ vs, H' a = some (.lst vs) := by
  have c' : Ch O H H' := fun a o m q => c a o (fun z => m (Hid.live1 z)) q
  have hl : ∀ a ∈ as, ∃ vs, H' a = some (.lst vs) := fun a ha => by
    obtain ⟨i, hi⟩ := List.mem_iff_getElem?.mp ha
    obtain ⟨c0, vs, q1, q2, q3⟩ := w.cell _ a (h.at_ i a hi)
    exact ⟨vs, c a _ (h.no w ha) q2⟩
  have l1 : cs1.length = O.length := by have := w1.len; unfold offL at this; simpa using this
  refine ⟨c', ⟨by unfold backC; simp [l1], w.inj, fun j a q => ?_, fun j q => ?_⟩, hl⟩
  · rw [back_get]
    cases z : inG k n j with
    | true =>
      obtain ⟨c0, vs, q1, q2, q3⟩ := w.cell j a q
      obtain ⟨b, hb, e⟩ := h.mem z
      rw [q] at e
      cases e
      have hj : j < cs1.length := by rw [l1]; exact (List.getElem?_eq_some_iff.mp q).1
      refine ⟨c0, vs, ?_, c a _ (h.no w hb) q2, q3.mono c'.data⟩
      rw [if_pos rfl, List.getElem?_eq_getElem hj, q1]
      rfl
    | false =>
      obtain ⟨c0, vs, q1, q2, q3⟩ := w1.cell j a (by rw [off_get, z]; exact q)
      exact ⟨c0, vs, by rw [if_neg (by decide)]; exact q1, q2, q3.keep (fun _ _ y => h.tup hl y) (okCs_get ok q1)⟩
  · rw [back_get]
    cases z : inG k n j with
    | true =>
      obtain ⟨b, hb, e⟩ := h.mem z
      rw [q] at e
      cases e
    | false =>
      rw [if_neg (by decide)]
      exact w1.ded j (by rw [off_get, z]; exact q)
mutual
/-- a group, as data -/
theorem lsh_rp {O2 : List (Option Addr)} (sb : ∀ a o, hd O H a = some o → hd O2 H a = some o) : ∀ (d : D) (v : V) (as : List Addr), LSh K (hd O H) d v as → (∀ (i : Nat) (a : Addr), as[i]? = some a → ∃ c vs, (flats d)[i]? = some c ∧ hd O2 H a = some (.lst vs) ∧ RpAll K (hd O2 H) vs c) → Rp K (hd O2 H) v d
  | .list c, v, as, q, hc => by
    unfold LSh at q
    by_cases f : noLs c = true
    · rw [if_pos f] at q
      obtain ⟨a, rfl, rfl⟩ := q
      obtain ⟨c', vs, q1, q2, q3⟩ := hc 0 a rfl
      unfold flats at q1
      rw [if_pos f] at q1
      cases q1
      exact .lst (.inl (.inl q2)) q3
    · rw [if_neg f] at q
      obtain ⟨a, vs, rfl, q1, q2⟩ := q
      unfold flats at hc
      rw [if_neg f] at hc
      exact .lst (q1.mono sb) (lshs_rp sb c vs as q2 hc)
  | .tuple ds, v, as, q, hc => by
    unfold LSh at q
    unfold flats at hc
    obtain ⟨t, vs, rfl, q1, q2⟩ := q
    exact .tup (sqT_mono sb q1) (lshs_rp sb ds vs as q2 hc)
  | .none, v, as, q, _ => by unfold LSh at q; exact q.1.mono sb
  | .bool _, v, as, q, _ => by unfold LSh at q; exact q.1.mono sb
  | .int _, v, as, q, _ => by unfold LSh at q; exact q.1.mono sb
  | .str _, v, as, q, _ => by unfold LSh at q; exact q.1.mono sb
  | .dict _, v, as, q, _ => by unfold LSh at q; exact q.elim
theorem lshs_rp {O2 : List (Option Addr)} (sb : ∀ a o, hd O H a = some o → hd O2 H a = some o) : ∀ (ds : List D) (vs : List V) (as : List Addr), LShs K (hd O H) ds vs as → (∀ (i : Nat) (a : Addr), as[i]? = some a → ∃ c vs, (flatsA ds)[i]? = some c ∧ hd O2 H a = some (.lst vs) ∧ RpAll K (hd O2 H) vs c) → RpAll K (hd O2 H) vs ds
  | [], [], as, q, _ => .nil
  | d :: ds, v :: vs, as, q, hc => by
    unfold LShs at q
    obtain ⟨a1, a2, rfl, q1, q2⟩ := q
    have ef : flatsA (d :: ds) = flats d ++ flatsA ds := by rw [flatsA]
    rw [ef] at hc
    have hl := lsh_len d v a1 q1
    refine .cons (lsh_rp sb d v a1 q1 fun i a hi => ?_) (lshs_rp sb ds vs a2 q2 fun i a hi => ?_)
    · have hlt := (List.getElem?_eq_some_iff.mp hi).1
      obtain ⟨c, us, z1, z2, z3⟩ := hc i a (by rw [List.getElem?_append_left hlt]; exact hi)
      exact ⟨c, us, by rw [List.getElem?_append_left (by rw [← hl]; exact hlt)] at z1; exact z1, z2, z3⟩
    · obtain ⟨c, us, z1, z2, z3⟩ := hc (a1.length + i) a (by rw [List.getElem?_append_right (by omega), show a1.length + i - a1.length = i by omega]; exact hi)
      exact ⟨c, us, by rw [List.getElem?_append_right (by omega), ← hl, show a1.length + i - a1.length = i by omega] at z1; exact z1, z2, z3⟩
  | [], _ :: _, as, q, _ => by unfold LShs at q; exact q.elim
  | _ :: _, [], as, q, _ => by unfold LShs at q; exact q.elim
theorem lsh_len : ∀ (d : D) (v : V) (as : List Addr), LSh K (hd O H) d v as → as.length = (flats d).length
  | .list c, v, as, q => by
    unfold LSh at q
    unfold flats
    split at q
    · rename_i z
      rw [if_pos z]
      obtain ⟨a, rfl, rfl⟩ := q
      rfl
    · rename_i z
      rw [if_neg z]
      obtain ⟨a, vs, rfl, q1, q2⟩ := q
      exact lshs_len c vs as q2
  | .tuple ds, v, as, q => by
    unfold LSh at q
    unfold flats
    obtain ⟨t, vs, rfl, q1, q2⟩ := q
    exact lshs_len ds vs as q2
  | .none, v, as, q => by unfold LSh at q; unfold flats; rw [q.2]; rfl
  | .bool _, v, as, q => by unfold LSh at q; unfold flats; rw [q.2]; rfl
  | .int _, v, as, q => by unfold LSh at q; unfold flats; rw [q.2]; rfl
  | .str _, v, as, q => by unfold LSh at q; unfold flats; rw [q.2]; rfl
  | .dict _, v, as, q => by unfold LSh at q; exact q.elim
theorem lshs_len : ∀ (ds : List D) (vs : List V) (as : List Addr), LShs K (hd O H) ds vs as → as.length = (flatsA ds).length
  | [], [], as, q => by unfold LShs at q; unfold flatsA; rw [q]; rfl
  | d :: ds, v :: vs, as, q => by
    unfold LShs at q
    obtain ⟨a1, a2, rfl, q1, q2⟩ := q
    unfold flatsA
    rw [List.length_append, List.length_append, lsh_len d v a1 q1, lshs_len ds vs a2 q2]
  | [], _ :: _, as, q => by unfold LShs at q; exact q.elim
  | _ :: _, [], as, q => by unfold LShs at q; exact q.elim
end
open Classical in
/-- what a slot gives when it is read as data -/
theorem bor_of {r : Rv} {v : V} {d : D} {k n : Nat} (w : Wd K O cs H) (a : ArR K O r v H) (e : borR r cs = some (d, k, n)) : ∃ as, Hid K O H cs k n as ∧ Rp K (hd (offL O k n) H) v d := by
  cases r with
  | own j =>
    obtain ⟨p, rfl, hp⟩ := a
    obtain ⟨c, vs, q1, q2, q3⟩ := w.cell j p hp
    unfold borR at e
    simp only [q1] at e
    obtain ⟨e1, e2⟩ := Prod.mk.inj (Option.some.inj e)
    obtain ⟨e3, e4⟩ := Prod.mk.inj e2
    subst e1 e3 e4
    have hh : Hid K O H cs j 1 [p] := ⟨rfl, fun i b hb => by
      cases i with
      | zero => simp at hb; subst hb; exact hp
      | succ i => simp at hb⟩
    exact ⟨[p], hh, .lst (.inl (.inl (hd_of (hh.no w (List.mem_singleton.mpr rfl)) q2))) (q3.mono Hid.sub)⟩
  | gr d' k' n' =>
    change (if _ then _ else _) = _ at e
    split at e
    · rename_i hz
      obtain ⟨e1, e2⟩ := Prod.mk.inj (Option.some.inj e)
      obtain ⟨e3, e4⟩ := Prod.mk.inj e2
      subst e1 e3 e4
      obtain ⟨h1, h2⟩ := hz
      obtain ⟨as, a1, a2, a3⟩ := a
      have hh : Hid K O H cs k' n' as := ⟨a1, a2⟩
      refine ⟨as, hh, lsh_rp Hid.sub d' v as a3 fun i b hb => ?_⟩
      obtain ⟨c, vs, q1, q2, q3⟩ := w.cell _ b (a2 i b hb)
      have hi : i < n' := by rw [← a1]; exact (List.getElem?_eq_some_iff.mp hb).1
      have : ((cs.drop k').take n')[i]? = some (some c) := by
        rw [List.getElem?_take_of_lt hi, List.getElem?_drop]
        exact q1
      rw [h1, List.getElem?_map] at this
      obtain ⟨c', z1, z2⟩ := Option.map_eq_some_iff.mp this
      cases z2
      exact ⟨c, vs, z1, hd_of (hh.no w (List.mem_of_getElem? hb)) q2, q3.mono Hid.sub⟩
    · cases e
  | _ => cases e
theorem Hid.env {k n : Nat} {ρ : Rho} {σ : L2.St} (en : EnvOk K O H ρ σ) : EnvOk K (offL O k n) H (hidR k n ρ) σ := by
  refine ⟨by unfold hidR; simp [en.len], fun j r hj => ?_⟩
  unfold hidR at hj
  rw [List.getElem?_map] at hj
  cases q : ρ[j]? with
  | none => rw [q] at hj; cases hj
  | some r0 =>
    rw [q] at hj
    cases r0 with
    | none => cases hj
    | some r1 =>
      obtain ⟨v, q1, q2⟩ := en.slot j _ q
      cases r1 with
      | dat d => cases hj; exact ⟨v, q1, Rp.mono Hid.sub q2⟩
      | fr l => exact q2.elim
      | ft l => exact q2.elim
      | gr d k n => cases hj
      | exn nm d => cases hj; exact ⟨v, q1, ExAt.mono Hid.sub q2⟩
      | own l =>
        obtain ⟨a, e, q3⟩ := q2
        have hj' : (if inG k n l = true then none else some (Rv.own l)) = some r := Option.some.inj hj
        split at hj'
        · cases hj'
        · rename_i nl
          cases hj'
          exact ⟨v, q1, a, e, by rw [off_get, if_neg nl]; exact q3⟩
end
theorem okCs_back {cs1 cs : Cs} {k n : Nat} (h1 : okCs cs1 = true) (h2 : okCs cs = true) : okCs (backC cs1 cs k n) = true := by
  refine List.all_eq_true.mpr fun x hx => ?_
  obtain ⟨i, hi⟩ := List.mem_iff_getElem?.mp hx
  rw [back_get] at hi
  split at hi
  · obtain ⟨y, h3, h4⟩ := Option.map_eq_some_iff.mp hi
    subst h4
    cases q : cs[i]? with
    | none => rfl
    | some z => exact List.all_eq_true.mp h2 z (List.mem_of_getElem? q)
  · exact List.all_eq_true.mp h1 x (List.mem_of_getElem? hi)
/-- e, the slot i read as data -/
noncomputable def mBor (i : Nat) (f : ME) : ME := fun ρ cs => (ρ[i]?.join).bind fun r => match r with
  | .dat _ => f ρ cs
  | r => (borR r cs).bind fun b => (f ((hidR b.2.1 b.2.2 ρ).set i (some (.dat b.1))) (offL cs b.2.1 b.2.2)).bind fun q => match q.1 with
    | .dat s => if (noL s && okCs q.2) = true then some (.dat s, backC q.2 cs b.2.1 b.2.2) else none
    | .fr c => if (noLs c && okCs q.2 && okCs cs) = true then some (.fr c, backC q.2 cs b.2.1 b.2.2) else none
    | _ => none
theorem bor_tX {K : PySem.W.Frag} {i : Nat} {f : ME} {σ : L2.St} {H : Hp} {Q : VK} (h : tX K (mBor i f) σ H Q) : tX K f σ H Q := by
    obtain ⟨ρ, O, cs, z, cs', e0, en, w, p⟩ := h
    unfold mBor at e0
    obtain ⟨r, h1, e1⟩ := Option.bind_eq_some_iff.mp e0
    have h1' : ρ[i]? = some (some r) := by
      cases q : ρ[i]? with
      | none => rw [q] at h1; cases h1
      | some o =>
        rw [q] at h1
        cases o with
        | none => cases h1
        | some r' =>
          have e : r' = r := Option.some.inj h1
          rw [e]
    have main : ∀ {d : D} {k n : Nat} {x : Rv} {cs1 : Cs}, borR r cs = some (d, k, n) → f ((hidR k n ρ).set i (some (.dat d))) (offL cs k n) = some (x, cs1) →
        ((∃ s, x = .dat s ∧ noL s = true ∧ okCs cs1 = true ∧ z = .dat s ∧ cs' = backC cs1 cs k n) ∨ (∃ c, x = .fr c ∧ noLs c = true ∧ okCs cs1 = true ∧ okCs cs = true ∧ z = .fr c ∧ cs' = backC cs1 cs k n)) → tX K f σ H Q := fun {d k n x cs1} h2 h3 h4 => by
      obtain ⟨v, q1, q2⟩ := en.slot i r h1'
      obtain ⟨as, hh, rp⟩ := bor_of w q2 h2
      have en1 := (Hid.env (k := k) (n := n) en)
      refine ⟨_, offL O k n, offL cs k n, x, cs1, h3, ?_, hh.wd w, fun u H' c w1 ru => ?_⟩
      · refine ⟨by simpa using en1.len, fun j r' hj => ?_⟩
        by_cases ej : i = j
        · subst ej
          have hi : i < (hidR k n ρ).length := by
            unfold hidR
            rw [List.length_map]
            exact (List.getElem?_eq_some_iff.mp h1').1
          rw [List.getElem?_set_self hi] at hj
          cases hj
          exact ⟨v, q1, rp⟩
        · rw [List.getElem?_set_ne ej] at hj
          exact en1.slot j r' hj
      · rcases h4 with ⟨s, rfl, z1, z2, rfl, rfl⟩ | ⟨l, rfl, z1, z2, z3, rfl, rfl⟩
        · obtain ⟨c', w2, hl⟩ := hh.back w c w1 z2
          have ru' : Rp K (hd (offL O k n) H') u s := ru
          exact p u H' c' w2 (show Rp K (hd O H') u s from ru'.keep (fun _ _ y => hh.tup hl y) z1)
        · obtain ⟨c', w2, hl⟩ := hh.back w c w1 z2
          obtain ⟨a, rfl, ha, wa⟩ := ru
          refine p _ H' c' w2 ⟨a, rfl, ha, ?_⟩
          obtain ⟨l', vs, y1, y2, y3⟩ := wa.cell (offL O k n).length a (by simp)
          rw [← w1.len] at y1
          simp at y1
          subst y1
          have na : a ∉ live O := w.fresh ha
          refine w2.adopt (as := [a]) (cells := [l]) (by simp) (fun b hb => by rw [List.mem_singleton.mp hb]; exact na) ⟨rfl, fun j b hb => ?_⟩ (by simp [z1]) (okCs_back z2 z3)
          cases j with
          | zero =>
            simp at hb
            subst hb
            exact ⟨l, vs, rfl, y2, (y3.mono hd_app).keep (fun _ _ y => hh.tup hl y) z1⟩
          | succ j => simp at hb
    cases r with
    | dat d0 => exact ⟨ρ, O, cs, z, cs', e1, en, w, p⟩
    | _ =>
      obtain ⟨⟨d, k, n⟩, h2, e2⟩ := Option.bind_eq_some_iff.mp e1
      obtain ⟨⟨x, cs1⟩, h3, e3⟩ := Option.bind_eq_some_iff.mp e2
      refine main h2 h3 ?_
      cases x with
      | dat s =>
        obtain ⟨hz, e4⟩ := ite_none e3
        obtain ⟨z1, z2⟩ := Bool.and_eq_true_iff.mp hz
        cases e4
        exact .inl ⟨s, rfl, z1, z2, rfl, rfl⟩
      | fr c =>
        obtain ⟨hz, e4⟩ := ite_none e3
        obtain ⟨z12, z3⟩ := Bool.and_eq_true_iff.mp hz
        obtain ⟨z1, z2⟩ := Bool.and_eq_true_iff.mp z12
        cases e4
        exact .inr ⟨c, rfl, z1, z2, z3, rfl, rfl⟩
      | _ => cases e3
/-- a test, the slot i read as data -/
noncomputable def mBorT (i : Nat) (t : MT) : MT := fun ρ cs => (ρ[i]?.join).bind fun r => match r with
  | .dat _ => t ρ cs
  | r => (borR r cs).bind fun b => (t ((hidR b.2.1 b.2.2 ρ).set i (some (.dat b.1))) (offL cs b.2.1 b.2.2)).bind fun q => if okCs q.2 = true then some (q.1, backC q.2 cs b.2.1 b.2.2) else none
theorem bor_tXT {K : PySem.W.Frag} {i : Nat} {f : MT} {σ : L2.St} {H : Hp} {Q : Bool → Hp → Prop} (h : tXT K (mBorT i f) σ H Q) : tXT K f σ H Q := by
    obtain ⟨ρ, O, cs, z, cs', e0, en, w, p⟩ := h
    unfold mBorT at e0
    obtain ⟨r, h1, e1⟩ := Option.bind_eq_some_iff.mp e0
    have h1' : ρ[i]? = some (some r) := by
      cases q : ρ[i]? with
      | none => rw [q] at h1; cases h1
      | some o =>
        rw [q] at h1
        cases o with
        | none => cases h1
        | some r' =>
          have e : r' = r := Option.some.inj h1
          rw [e]
    have main : ∀ {d : D} {k n : Nat} {cs1 : Cs}, borR r cs = some (d, k, n) → f ((hidR k n ρ).set i (some (.dat d))) (offL cs k n) = some (z, cs1) → okCs cs1 = true → cs' = backC cs1 cs k n → tXT K f σ H Q := fun {d k n cs1} h2 h3 z2 e4 => by
      subst e4
      obtain ⟨v, q1, q2⟩ := en.slot i r h1'
      obtain ⟨as, hh, rp⟩ := bor_of w q2 h2
      have en1 := (Hid.env (k := k) (n := n) en)
      refine ⟨_, offL O k n, offL cs k n, z, cs1, h3, ?_, hh.wd w, fun H' c w1 => ?_⟩
      · refine ⟨by simpa using en1.len, fun j r' hj => ?_⟩
        by_cases ej : i = j
        · subst ej
          have hi : i < (hidR k n ρ).length := by
            unfold hidR
            rw [List.length_map]
            exact (List.getElem?_eq_some_iff.mp h1').1
          rw [List.getElem?_set_self hi] at hj
          cases hj
          exact ⟨v, q1, rp⟩
        · rw [List.getElem?_set_ne ej] at hj
          exact en1.slot j r' hj
      · obtain ⟨c', w2, hl⟩ := hh.back w c w1 z2
        exact p H' c' w2
    cases r with
    | dat d0 => exact ⟨ρ, O, cs, z, cs', e1, en, w, p⟩
    | _ =>
      obtain ⟨⟨d, k, n⟩, h2, e2⟩ := Option.bind_eq_some_iff.mp e1
      obtain ⟨⟨x, cs1⟩, h3, e3⟩ := Option.bind_eq_some_iff.mp e2
      obtain ⟨hz, e4⟩ := ite_none e3
      cases e4
      exact main h2 h3 hz rfl
theorem xt_bor {X : Cx} {i : Nat} {f : MT} {e : Expr} (he : XT X f e) : XT X (mBorT i f) e := pt_weak he fun _ _ _ h => bor_tXT h
theorem xe_bor {X : Cx} {i : Nat} {f : ME} {e : Expr} (he : XE X f e) : XE X (mBor i f) e := pe_weak he fun _ _ _ h => bor_tX h
section
variable {X : Cx}
/-- y = [.. for .. in ..], the slot j read as data -/
theorem xs_setCB {i j : Nat} {y : Str} {py : Pos} {elt tg iter : Expr} {ifs : List Expr} {scope : Scope} {own : List (Str × Nat)} {pos spos : Pos} {f : MI} {g : MG} {t : MT} {e : ME} (hc : X.calm = true) (hN : X.N.Nodup) (hy : X.N[i]? = some y) (hyl : X.env.scope.names.lookup y = some .local)
    (hsw : swapsWith (.ListComp elt [⟨tg, iter, ifs, 0⟩] scope pos) (some (.Name y py)) spos.line X.env = pure true) (hi : XI X f tg iter) (ok : BlkOk X.N X.env.scope scope own)
    (hg : BlkX X scope fun Y => XG Y (own.map (·.2)) g tg) (ht : BlkX X scope fun Y => XTs Y t ifs) (he : BlkX X scope fun Y => XE Y e elt) (hs : ∀ x, foldedSetIterable iter X.env x = pure x := by intro _; rfl) :
    XS X (sSet i (mBor j (xComp f g t e (own.map (·.2))))) (.Assign [.Name y py] (.ListComp elt [⟨tg, iter, ifs, 0⟩] scope pos) spos) :=
  (
    have hg' : ∀ (s : Shared) (H : Hp) (C : Addr) (cl : List (Str × Addr)) (fp : List Addr), PG (X.blk s H scope (compEnvC scope cl C X.env) fp) tg (tG X.K (own.map (·.2)) g) := hg
    have ht' : ∀ (s : Shared) (H : Hp) (C : Addr) (cl : List (Str × Addr)) (fp : List Addr), PTs (X.blk s H scope (compEnvC scope cl C X.env) fp) ifs (tXT X.K t) := ht
    have he' : ∀ (s : Shared) (H : Hp) (C : Addr) (cl : List (Str × Addr)) (fp : List Addr), PE (X.blk s H scope (compEnvC scope cl C X.env) fp) elt (tX X.K e) := he
    ps_weak (ps_setLc hc hN hy hyl hsw hi ok hg' ht' he' hs) fun D σ H h => tLc_of (bor_tX (tSet_of h)))
end
end DL
/-! GR4: comprehensions of fresh lists; a fresh pair unpacked; an item of a fresh list returned. -/
namespace DL
open PySem PySem.Spec PyProof.Rows L2
section
variable {K : PySem.W.Frag} {O : List (Option Addr)} {H H' : Hp} {cs : Cs}
mutual
theorem lsh_norp : ∀ (d : D) (v : V) (as : List Addr), noL d = true → LSh K H d v as → Rp K H v d ∧ as = []
  | .list _, v, as, f, q => by unfold noL at f; cases f
  | .tuple ds, v, as, f, q => by
    unfold noL at f
    unfold LSh at q
    obtain ⟨t, vs, rfl, q1, q2⟩ := q
    obtain ⟨z1, z2⟩ := lshs_norp ds vs as f q2
    exact ⟨.tup q1 z1, z2⟩
  | .none, v, as, _, q => by unfold LSh at q; exact q
  | .bool _, v, as, _, q => by unfold LSh at q; exact q
  | .int _, v, as, _, q => by unfold LSh at q; exact q
  | .str _, v, as, _, q => by unfold LSh at q; exact q
  | .dict _, v, as, _, q => by unfold LSh at q; exact q.elim
theorem lshs_norp : ∀ (ds : List D) (vs : List V) (as : List Addr), noLs ds = true → LShs K H ds vs as → RpAll K H vs ds ∧ as = []
  | [], [], as, _, q => by unfold LShs at q; exact ⟨.nil, q⟩
  | d :: ds, v :: vs, as, f, q => by
    unfold noLs at f
    obtain ⟨f1, f2⟩ := Bool.and_eq_true_iff.mp f
    unfold LShs at q
    obtain ⟨a1, a2, rfl, q1, q2⟩ := q
    obtain ⟨z1, rfl⟩ := lsh_norp d v a1 f1 q1
    obtain ⟨y1, rfl⟩ := lshs_norp ds vs a2 f2 q2
    exact ⟨.cons z1 y1, rfl⟩
  | [], _ :: _, as, _, q => by unfold LShs at q; exact q.elim
  | _ :: _, [], as, _, q => by unfold LShs at q; exact q.elim
end
/-- a list elsewhere changes: flat data stay -/
theorem hd_upd_sq {p : Addr} {vs ws : List V} (hp : H p = some (.lst vs)) {t : Addr} {xs : List V} (q : SqT K (hd O H) t xs) : SqT K (hd O (upd H p (.lst ws))) t xs := by
  have one : ∀ u, (∀ vs, u ≠ .lst vs) → hd O H t = some u → hd O (upd H p (.lst ws)) t = some u := fun u hu e => by
    obtain ⟨n, e1⟩ := hd_some e
    refine hd_of n ?_
    rw [upd_ne (fun z => ?_)]
    · exact e1
    · subst z
      rw [hp] at e1
      exact hu vs (Option.some.inj e1).symm
  rcases q with (q | ⟨o, q⟩) | q
  · exact .inl (.inl (one _ nofun q))
  · exact .inl (.inr ⟨o, one _ nofun q⟩)
  · exact .inr q
theorem Wd.elsewhere (w : Wd K O cs H) {p : Addr} {vs ws : List V} (hp : H p = some (.lst vs)) (np : p ∉ live O) (ok : okCs cs = true) : Wd K O cs (upd H p (.lst ws)) := by
  refine ⟨w.len, w.inj, fun i a h => ?_, w.ded⟩
  obtain ⟨c, us, h1, h2, h3⟩ := w.cell i a h
  refine ⟨c, us, h1, ?_, h3.keep (fun _ _ y => hd_upd_sq hp y) (okCs_get ok h1)⟩
  rw [upd_ne (fun z => np (by rw [← z]; exact mem_live.mpr ⟨i, h⟩))]
  exact h2
/-- flat lists at their addresses -/
def FlL (K : PySem.W.Frag) (O : List (Option Addr)) (H : Hp) (as : List Addr) (cells : List (List D)) : Prop := as.length = cells.length ∧ ∀ (i : Nat) (a : Addr), as[i]? = some a → ∃ c us, cells[i]? = some c ∧ H a = some (.lst us) ∧ RpAll K (hd O H) us c ∧ noLs c = true
theorem FlL.ch {as : List Addr} {cells : List (List D)} (h : FlL K O H as cells) (n : ∀ a ∈ as, a ∉ live O) (c : Ch O H H') : FlL K O H' as cells :=
  ⟨h.1, fun i a e => let ⟨c0, us, h1, h2, h3, h4⟩ := h.2 i a e; ⟨c0, us, h1, c a _ (n a (List.mem_of_getElem? e)) h2, h3.mono c.data, h4⟩⟩
theorem FlL.elsewhere {as : List Addr} {cells : List (List D)} (h : FlL K O H as cells) {p : Addr} {vs ws : List V} (hp : H p = some (.lst vs)) (np : p ∉ as) : FlL K O (upd H p (.lst ws)) as cells :=
  ⟨h.1, fun i a e => let ⟨c0, us, h1, h2, h3, h4⟩ := h.2 i a e; ⟨c0, us, h1, by rw [upd_ne (fun z => np (by rw [← z]; exact List.mem_of_getElem? e))]; exact h2, h3.keep (fun _ _ y => hd_upd_sq hp y) h4, h4⟩⟩
theorem FlL.snoc {as : List Addr} {cells : List (List D)} (h : FlL K O H as cells) {a : Addr} {us : List V} {c : List D} (h1 : H a = some (.lst us)) (h2 : RpAll K (hd O H) us c) (h3 : noLs c = true) : FlL K O H (as ++ [a]) (cells ++ [c]) := by
  refine ⟨by simp [h.1], fun i b e => ?_⟩
  by_cases hi : i < as.length
  · rw [List.getElem?_append_left hi] at e
    obtain ⟨c0, us0, q1, q2⟩ := h.2 i b e
    exact ⟨c0, us0, by rw [List.getElem?_append_left (by rw [← h.1]; exact hi)]; exact q1, q2⟩
  · rw [List.getElem?_append_right (by omega)] at e
    have h0 : i - as.length = 0 := by
      have := (List.getElem?_eq_some_iff.mp e).1
      simp at this; omega
    rw [h0] at e
    simp at e
    subst e
    exact ⟨c, us, by rw [List.getElem?_append_right (by rw [← h.1]; omega), ← h.1, h0]; rfl, h1, h2, h3⟩
theorem FlL.rp : ∀ {as : List Addr} {cells : List (List D)}, FlL K O H as cells → (∀ a ∈ as, a ∉ live O) → RpAll K (hd O H) (as.map .ref) (cells.map .list)
  | [], [], _, _ => .nil
  | [], _ :: _, h, _ => absurd h.1 (by simp)
  | _ :: _, [], h, _ => absurd h.1 (by simp)
  | a :: as, c :: cells, h, n => by
    obtain ⟨c0, us, h1, h2, h3, h4⟩ := h.2 0 a rfl
    cases h1
    refine .cons (.lst (.inl (.inl (hd_of (n a (List.mem_cons_self ..)) h2))) h3) (FlL.rp ⟨by have := h.1; simpa using this, fun i b e => ?_⟩ fun b hb => n b (List.mem_cons_of_mem _ hb))
    obtain ⟨c1, us1, q1, q2⟩ := h.2 (i + 1) b (by simpa using e)
    exact ⟨c1, us1, by simpa using q1, q2⟩
theorem FlL.lsh : ∀ {as : List Addr} {cells : List (List D)} {h : Hp}, FlL K O H as cells → LShs K h (cells.map .list) (as.map .ref) as
  | [], [], _, _ => by unfold LShs; rfl
  | [], _ :: _, _, h => absurd h.1 (by simp)
  | _ :: _, [], _, h => absurd h.1 (by simp)
  | a :: as, c :: cells, hh, h => by
    obtain ⟨c0, us, h1, h2, h3, h4⟩ := h.2 0 a rfl
    cases h1
    show LShs K hh (.list c :: cells.map .list) (.ref a :: as.map .ref) (a :: as)
    unfold LShs
    refine ⟨[a], as, rfl, by unfold LSh; rw [if_pos h4]; exact ⟨a, rfl, rfl⟩, FlL.lsh ⟨by have := h.1; simpa using this, fun i b e => ?_⟩⟩
    obtain ⟨c1, us1, q1, q2⟩ := h.2 (i + 1) b (by simpa using e)
    exact ⟨c1, us1, by simpa using q1, q2⟩
theorem FlL.flats : ∀ {as : List Addr} {cells : List (List D)}, FlL K O H as cells → flatsA (cells.map .list) = cells
  | [], [], _ => by unfold flatsA; rfl
  | [], _ :: _, h => absurd h.1 (by simp)
  | _ :: _, [], h => absurd h.1 (by simp)
  | a :: as, c :: cells, h => by
    obtain ⟨c0, us, h1, h2, h3, h4⟩ := h.2 0 a rfl
    cases h1
    show flatsA (.list c :: cells.map .list) = c :: cells
    unfold flatsA
    rw [FlL.flats (as := as) (cells := cells) ⟨by have := h.1; simpa using this, fun i b e => ?_⟩]
    · unfold DL.flats
      rw [if_pos h4]
      rfl
    · obtain ⟨c1, us1, q1, q2⟩ := h.2 (i + 1) b (by simpa using e)
      exact ⟨c1, us1, by simpa using q1, q2⟩
theorem FlL.cont {as : List Addr} {cells : List (List D)} (h : FlL K O H as cells) : Cont K (hd O H) H as cells := ⟨h.1, fun i a e => let ⟨c, us, h1, h2, h3, _⟩ := h.2 i a e; ⟨c, us, h1, h2, h3⟩⟩
/-- a list of fresh lists is a fresh tree -/
theorem FlL.fta {as : List Addr} {cells : List (List D)} {N : Addr → Prop} {p : Addr} (h : FlL K O H as cells) (nd : as.Nodup) (hn : ∀ a ∈ as, N a ∧ a ∉ live O) (hp : H p = some (.lst (as.map .ref))) (np : N p ∧ p ∉ live O) : FtA K O N (.list (cells.map .list)) (.ref p) H := by
  have r := h.rp fun a ha => (hn a ha).2
  have lp : LstAt K (hd O H) p (as.map .ref) := .inl (.inl (hd_of np.2 hp))
  refine ⟨.lst lp r, ?_⟩
  cases hz : noLs (cells.map PyData.list) with
  | true =>
    have e0 : cells = [] := by
      cases cells with
      | nil => rfl
      | cons c r => simp [noLs, noL] at hz
    subst e0
    have e1 : as = [] := by
      have := h.1
      simpa using this
    subst e1
    refine ⟨[p], by unfold LSh; rw [if_pos hz]; exact ⟨p, rfl, rfl⟩, by simp, fun a ha => by rw [List.mem_singleton.mp ha]; exact np, ?_⟩
    refine ⟨by unfold DL.flats; rw [if_pos hz]; rfl, fun i a e => ?_⟩
    cases i with
    | zero =>
      simp at e
      subst e
      exact ⟨[], [], by unfold DL.flats; rw [if_pos hz]; rfl, hp, .nil⟩
    | succ i => simp at e
  | false =>
    refine ⟨as, by unfold LSh; rw [if_neg (by rw [hz]; decide)]; exact ⟨p, _, rfl, lp, h.lsh⟩, nd, hn, ?_⟩
    have ef : DL.flats (.list (cells.map PyData.list)) = cells := by
      unfold DL.flats
      rw [if_neg (by rw [hz]; decide)]
      exact h.flats
    rw [ef]
    exact h.cont
/-! ### comprehensions of fresh lists -/
def compF (g : MG) (f : ME) : List D → Rho → Cs → List (List D) → Option (List (List D) × Cs)
  | [], _, cs, acc => some (acc, cs)
  | d :: ds, ρ, cs, acc => (g d ρ).bind fun ρ1 => (f ρ1 cs).bind fun q => match q.1 with
    | .fr c => if (noLs c && okCs q.2 && decide (acc.length < sizeLine)) = true then compF g f ds ρ q.2 (acc ++ [c]) else none
    | _ => none
def xCompF (f : MI) (g : MG) (e : ME) (vs : List Nat) : ME := fun ρ cs => (f ρ cs).bind fun p => if okCs p.2 = true then (compF g e p.1 (wipeR ρ vs) p.2 []).map fun q => (.ft (.list (q.1.map .list)), q.2) else none
theorem tLcF_of {f : MI} {g : MG} {e : ME} {vs : List Nat} {σ : L2.St} {Q : VK} (h : tX K (xCompF f g e vs) σ H Q) : tLc (tI K f) (tG K vs g) (tXT K mYes) (tX K e) vs σ H Q := by
  obtain ⟨ρ, O, cs, r, cs', e0, en, w, p⟩ := h
  obtain ⟨⟨ds, cs1⟩, g1, e1⟩ := Option.bind_eq_some_iff.mp e0
  obtain ⟨ok1, e1'⟩ := ite_none e1
  obtain ⟨⟨res, cs9⟩, g2, e2⟩ := Option.map_eq_some_iff.mp e1'
  clear e0 e1 e1'
  cases e2
  refine ⟨ρ, O, cs, ds, cs1, g1, en, w, fun J H1 c1 w1 wk D hD => ?_⟩
  have hD0 : H D = none := w.new_of w1 c1 hD
  have nD : D ∉ live O := w1.fresh hD
  have cN : Ch O H1 (upd H1 D (.lst [])) := ch_new hD
  have enb : EnvOk K O H1 (wipeR ρ vs) (L2.wipe σ vs) := (en.ch c1).wipe vs
  refine ⟨fun i m H' => m = ds.length - i ∧ i ≤ ds.length ∧ ∃ cs2 as acc, compF g e (ds.drop i) (wipeR ρ vs) cs2 acc = some (res, cs9) ∧ okCs cs2 = true ∧ Wd K O cs2 H' ∧ Ch O H1 H' ∧ H' D = some (.lst (as.map .ref)) ∧ FlL K O H' as acc ∧ as.Nodup ∧ (∀ a ∈ as, H1 a = none ∧ a ∉ live O ∧ a ≠ D),
    ⟨ds.length, by simp, Nat.zero_le _, cs1, [], [], g2, ok1, w1.new hD, cN, upd_same, ⟨rfl, fun i a z => by simp at z⟩, List.nodup_nil, nofun⟩, ?_⟩
  rintro i m H' ⟨rfl, hi', cs2, as, acc, e3, ok2, w', ch', hDD, fl, nd, hn⟩
  have sb : Sub O H1 O H' := ch'.data
  by_cases hlt : i < ds.length
  · have hd' : ds[i]? = some ds[i] := List.getElem?_eq_getElem hlt
    rw [List.drop_eq_getElem_cons hlt] at e3
    obtain ⟨ρ1, h1, e4⟩ := Option.bind_eq_some_iff.mp e3
    obtain ⟨⟨x, cs4⟩, h2, e5⟩ := Option.bind_eq_some_iff.mp e4
    clear e3 e4
    cases x with
    | fr c =>
      obtain ⟨hz, e6⟩ := ite_none e5
      obtain ⟨hz1, hz2⟩ := Bool.and_eq_true_iff.mp hz
      obtain ⟨hz3, hz4⟩ := Bool.and_eq_true_iff.mp hz1
      have hz5 : acc.length < sizeLine := of_decide_eq_true hz2
      obtain ⟨go, yl⟩ := (wk i _ _ H' sb w').2 _ hd'
      refine .inr ⟨go, fun H2 => i + 1 ≤ ds.length ∧ ∃ cs2 as acc, compF g e (ds.drop (i + 1)) (wipeR ρ vs) cs2 acc = some (res, cs9) ∧ okCs cs2 = true ∧ Wd K O cs2 H2 ∧ Ch O H1 H2 ∧ H2 D = some (.lst (as.map .ref)) ∧ FlL K O H2 as acc ∧ as.Nodup ∧ (∀ a ∈ as, H1 a = none ∧ a ∉ live O ∧ a ≠ D), fun H2 h2 => ⟨ds.length - (i + 1), by omega, rfl, h2⟩, fun x H3 hy => ?_⟩
      obtain ⟨c3, w3, r3⟩ := yl x H3 hy
      refine ⟨_, O, _, ds[i], ρ1, h1, r3, enb.ch (ch'.trans c3), w3, fun σ4 en4 q4 => ⟨by rw [q4]; exact wipe_wipe σ vs, ?_⟩⟩
      refine ⟨ρ1, O, cs2, true, cs2, rfl, en4, w3, fun H5 c5 w5 => ?_⟩
      refine ⟨ρ1, O, cs2, .fr c, cs4, h2, en4.ch c5, w5, fun v H6 c6 w6 rv => ?_⟩
      obtain ⟨q, rfl, hq, wq⟩ := rv
      have chA : Ch O H' H6 := (c3.trans c5).trans c6
      have hD6 : H6 D = some (.lst (as.map .ref)) := chA D _ nD hDD
      have hqD : q ≠ D := fun z => by
        subst z
        have := (c3.trans c5) q _ nD hDD
        rw [hq] at this; cases this
      have nq : q ∉ live O := w5.fresh hq
      have hq1 : H1 q = none := by
        cases y : H1 q with
        | none => rfl
        | some o =>
          have := ((ch'.trans c3).trans c5) q o nq y
          rw [hq] at this; cases this
      obtain ⟨c', us, y1, y2, y3⟩ := wq.cell O.length q (by simp)
      rw [← w6.len] at y1
      simp at y1
      subst y1
      have fl6 : FlL K O H6 (as ++ [q]) (acc ++ [c]) := (fl.ch (fun a ha => (hn a ha).2.1) chA).snoc y2 (y3.mono hd_app) hz3
      have nqa : q ∉ as := fun z => by
        obtain ⟨j, hj⟩ := List.mem_iff_getElem?.mp z
        obtain ⟨c0, us0, _, z2, _⟩ := fl.2 j q hj
        have := (c3.trans c5) q _ nq z2
        rw [hq] at this; cases this
      have nDa : D ∉ as ++ [q] := fun z => by
        rcases List.mem_append.mp z with z | z
        · exact (hn D z).2.2 rfl
        · exact hqD (List.mem_singleton.mp z).symm
      refine ⟨as.map .ref, hD6, by rw [List.length_map, fl.1]; exact hz5, hlt, cs4, as ++ [q], acc ++ [c], e6, hz4, w6.elsewhere hD6 nD hz4, ?_, by rw [upd_same]; simp, fl6.elsewhere hD6 nDa, ?_, ?_⟩
      · intro a o na ha
        have hne : a ≠ D := fun z => by subst z; rw [hD] at ha; cases ha
        rw [upd_ne hne]
        exact (ch'.trans chA) a o na ha
      · exact List.nodup_append.mpr ⟨nd, by simp, fun a ha b hb z => by rw [List.mem_singleton.mp hb] at z; subst z; exact nqa ha⟩
      · intro a ha
        rcases List.mem_append.mp ha with z | z
        · exact hn a z
        · rw [List.mem_singleton.mp z]
          exact ⟨hq1, nq, hqD⟩
    | _ => cases e5
  · have ei : i = ds.length := by omega
    subst ei
    rw [List.drop_length] at e3
    cases e3
    refine .inl ⟨(wk ds.length _ _ H' sb w').1 (Nat.le_refl _), p _ H' (c1.trans ch') w' ?_⟩
    refine fl.fta nd (fun a ha => ⟨?_, (hn a ha).2.1⟩) hDD ⟨hD0, nD⟩
    cases y : H a with
    | none => rfl
    | some o =>
      have := c1 a o (hn a ha).2.1 y
      rw [(hn a ha).1] at this; cases this
end
section
variable {X : Cx}
theorem xe_compF {elt tg iter : Expr} {scope : Scope} {own : List (Str × Nat)} {pos : Pos} {f : MI} {g : MG} {e : ME} (hc : X.calm = true) (hN : X.N.Nodup) (hi : XI X f tg iter) (ok : BlkOk X.N X.env.scope scope own)
    (hg : BlkX X scope fun Y => XG Y (own.map (·.2)) g tg) (he : BlkX X scope fun Y => XE Y e elt) (hs : ∀ x, foldedSetIterable iter X.env x = pure x := by intro _; rfl) :
    XE X (xCompF f g e (own.map (·.2))) (.ListComp elt [⟨tg, iter, [], 0⟩] scope pos) := (
    have hg' : ∀ (s : Shared) (H : Hp) (C : Addr) (cl : List (Str × Addr)) (fp : List Addr), PG (X.blk s H scope (compEnvC scope cl C X.env) fp) tg (tG X.K (own.map (·.2)) g) := hg
    have ht' : ∀ (s : Shared) (H : Hp) (C : Addr) (cl : List (Str × Addr)) (fp : List Addr), PTs (X.blk s H scope (compEnvC scope cl C X.env) fp) [] (tXT X.K mYes) := fun _ _ _ _ _ => xts_nil
    have he' : ∀ (s : Shared) (H : Hp) (C : Addr) (cl : List (Str × Addr)) (fp : List Addr), PE (X.blk s H scope (compEnvC scope cl C X.env) fp) elt (tX X.K e) := he
    pe_weak (pe_lc hc hN hi ok hg' ht' he' hs) fun σ H Q h => tLcF_of h)
/-! ### a, b = a fresh list and data -/
def sUnp (i j : Nat) (f : ME) : MS := fun _ ρ cs => (f ρ cs).bind fun p => match p.1 with
  | .ft (.tuple [.list c, d]) => if (noLs c && noL d && okCs p.2) = true then some (.nx ((ρ.set i (some (.own p.2.length))).set j (some (.dat d))) (p.2 ++ [some c])) else none
  | _ => none
theorem xs_unp {i j : Nat} {x y : Str} {e : Expr} {f : ME} {px py pt pos : Pos} {kt} (hc : X.calm = true) (hN : X.N.Nodup) (hi : X.N[i]? = some x) (hj : X.N[j]? = some y) (hx : Loc X.env.scope x) (hy : Loc X.env.scope y) (he : XE X f e)
    (hfx : X.fn x = true ∨ X.env.scope.names.lookup x = some .local) (hfy : X.fn y = true ∨ X.env.scope.names.lookup y = some .local)
    (hs : swapsWithSole [.Tuple [.Name x px, .Name y py] kt pt] e pos.line X.env = pure false := by rfl) (hw : swappedStores [.Tuple [.Name x px, .Name y py] kt pt] e X.env = pure none := by rfl)
    (h1 : (assignEach [.Tuple [.Name x px, .Name y py] kt pt] X.env).map (·.2) = [assign (.Tuple [.Name x px, .Name y py] kt pt) X.env] := by rfl)
    (hn : (assignEach [.Name x px, .Name y py] X.env).length = 2 := by rfl) (hst : (assignEach [.Name x px, .Name y py] X.env).findIdx? (·.1) = none := by rfl)
    (hs1 : (assignEach [.Name x px, .Name y py] X.env).map (·.2) = assign (.Name x px) X.env :: (assignEach [.Name y py] X.env).map (·.2) := by rfl) (hs2 : (assignEach [.Name y py] X.env).map (·.2) = assign (.Name y py) X.env :: (assignEach [] X.env).map (·.2) := by rfl) :
    XS X (sUnp i j f) (.Assign [.Tuple [.Name x px, .Name y py] kt pt] e pos) :=
  ps_weak (ps_asg he (pg_tup hc (pgs_cons (pg_name hN hi hx hfx) (pgs_cons (pg_name hN hj hy hfy) pgs_nil hs2) hs1) hn hst) hs hw h1) fun D σ H ⟨n0, ρ, O, cs, out, e0, hn, en, w, p⟩ => by
    obtain ⟨⟨r, cs1⟩, h1, h2⟩ := Option.bind_eq_some_iff.mp e0
    refine ⟨ρ, O, cs, r, cs1, h1, en, w, fun v H' c w' rv => ?_⟩
    dsimp only at h2
    split at h2
    · rename_i l d
      obtain ⟨hz, h3⟩ := ite_none h2
      obtain ⟨hz1, hz2⟩ := Bool.and_eq_true_iff.mp hz
      obtain ⟨hz3, hz4⟩ := Bool.and_eq_true_iff.mp hz1
      cases h3
      obtain ⟨q1, as, q2, q3, q4, q5⟩ := rv
      unfold LSh at q2
      obtain ⟨t, vs, rfl, q6, q7⟩ := q2
      have hl := q7
      match vs, q7 with
      | [], q7 => unfold LShs at q7; exact q7.elim
      | [_], q7 => unfold LShs at q7; obtain ⟨_, _, _, _, q8⟩ := q7; unfold LShs at q8; exact q8.elim
      | _ :: _ :: _ :: _, q7 => unfold LShs at q7; obtain ⟨_, _, _, _, q8⟩ := q7; unfold LShs at q8; obtain ⟨_, _, _, _, q9⟩ := q8; unfold LShs at q9; exact q9.elim
      | [u1, u2], q7 =>
        unfold LShs at q7
        obtain ⟨a1, a2, rfl, q8, q9⟩ := q7
        unfold LShs at q9
        obtain ⟨a3, a4, rfl, q10, q11⟩ := q9
        unfold LShs at q11
        subst q11
        obtain ⟨q12, rfl⟩ := lsh_norp d u2 a3 hz4 q10
        unfold LSh at q8
        rw [if_pos hz3] at q8
        obtain ⟨a, rfl, rfl⟩ := q8
        have ef : flats (.tuple [.list l, d]) = [l] := by
          unfold flats
          unfold flatsA
          unfold flatsA
          unfold flatsA
          rw [flats_no _ hz4]
          unfold flats
          rw [if_pos hz3]
          rfl
        rw [ef] at q5
        have ha := q4 a (by simp)
        have wa := w'.adopt (as := [a]) (cells := [l]) (by simp) (fun b hb => by rw [List.mem_singleton.mp hb]; exact ha.2) q5 (by simp [hz3]) hz2
        have ex : Ext O.length O (addO O [a]) H := ext_add (Nat.le_refl _) fun b hb => by rw [List.mem_singleton.mp hb]; exact ha.1
        have hla : ∀ b ∈ [a], ∃ vs, H' b = some (.lst vs) := fun b hb => by
          rw [List.mem_singleton.mp hb]
          obtain ⟨c0, us, _, z, _⟩ := q5.2 0 a rfl
          exact ⟨us, z⟩
        refine ⟨t, [.ref a, u2], rfl, sqT_mono hd_le q6, rfl, ?_⟩
        refine ⟨_, _, rfl, ?_⟩
        refine ⟨_, _, rfl, rfl, ?_⟩
        refine p _ (addO O [a]) H' (ex.low hn) c (((en.extO ex c).set i (r := .own cs1.length) ⟨a, rfl, ?_⟩).set j (r := .dat d) (q12.keep (fun _ _ y => sqT_hide hla y) hz4)) wa
        unfold addO
        rw [w'.len]
        simp
    · cases h2
/-! ### b, p = e; return p[0], b -/
def sPick (i j : Nat) (f : ME) : MS := fun _ ρ cs => (f ρ cs).bind fun q => match q.1 with
  | .ft (.tuple [x, .list (.list c :: r)]) => if (noL x && noLs c && decide (i < ρ.length) && decide (j < ρ.length)) = true then some (.rt (.ft (.tuple [.list c, x])) q.2) else none
  | _ => none
theorem xs_pick {i j : Nat} {x y : Str} {e : Expr} {f : ME} {px py pt pos p2 p3 p4 p5 : Pos} {kt k2 k3} (hc : X.calm = true) (hN : X.N.Nodup) (hij : i ≠ j) (hi : X.N[i]? = some x) (hj : X.N[j]? = some y) (hx : Loc X.env.scope x) (hy : Loc X.env.scope y) (he : XE X f e)
    (hvx : Vis X.env.scope x) (hvy : Vis X.env.scope y)
    (hfx : X.fn x = true ∨ X.env.scope.names.lookup x = some .local) (hfy : X.fn y = true ∨ X.env.scope.names.lookup y = some .local)
    (hs : swapsWithSole [.Tuple [.Name x px, .Name y py] kt pt] e pos.line X.env = pure false := by rfl) (hw : swappedStores [.Tuple [.Name x px, .Name y py] kt pt] e X.env = pure none := by rfl)
    (h1 : (assignEach [.Tuple [.Name x px, .Name y py] kt pt] X.env).map (·.2) = [assign (.Tuple [.Name x px, .Name y py] kt pt) X.env] := by rfl)
    (hn : (assignEach [.Name x px, .Name y py] X.env).length = 2 := by rfl) (hst : (assignEach [.Name x px, .Name y py] X.env).findIdx? (·.1) = none := by rfl)
    (hs1 : (assignEach [.Name x px, .Name y py] X.env).map (·.2) = assign (.Name x px) X.env :: (assignEach [.Name y py] X.env).map (·.2) := by rfl) (hs2 : (assignEach [.Name y py] X.env).map (·.2) = assign (.Name y py) X.env :: (assignEach [] X.env).map (·.2) := by rfl)
    (hdx : (x == ("__debug__" : Str)) = false := by decide) (hcx : (x == ("__classdict__" : Str)) = false := by decide) (hdy : (y == ("__debug__" : Str)) = false := by decide) (hcy : (y == ("__classdict__" : Str)) = false := by decide)
    (hpl : PlainIx (.Constant (.int 0) k3 p3) := by exact fun _ _ => rfl)
    (hr1 : starEach [.Subscript (.Name y p2) (.Constant (.int 0) k3 p3) p4, .Name x p5] X.env = (false, eval (.Subscript (.Name y p2) (.Constant (.int 0) k3 p3) p4) X.env) :: starEach [.Name x p5] X.env := by rfl)
    (hr2 : starEach [.Name x p5] X.env = (false, eval (.Name x p5) X.env) :: starEach [] X.env := by rfl) {p6 p7 : Pos} :
    XSs X (sPick i j f) [.Assign [.Tuple [.Name x px, .Name y py] kt pt] e pos, .Return (some (.Tuple [.Subscript (.Name y p2) (.Constant (.int 0) k3 p3) p4, .Name x p5] k2 p6)) p7] :=
  pss_weak (pss_cons (ps_asg he (pg_tup hc (pgs_cons (pg_name hN hi hx hfx) (pgs_cons (pg_name hN hj hy hfy) pgs_nil hs2) hs1) hn hst) hs hw h1)
    (pss_one (ps_ret (pe_tup (pa_cons (pe_ix ix_seq (pe_var hj hvy hdy hcy) pe_int hpl) (pa_cons (pe_var hi hvx hdx hcx) pa_nil hr2) hr1))))) fun D σ H ⟨n0, ρ, O, cs, out, e0, hn, en, w, p⟩ => by
    obtain ⟨⟨r, cs1⟩, h1, h2⟩ := Option.bind_eq_some_iff.mp e0
    refine ⟨ρ, O, cs, r, cs1, h1, en, w, fun v H' c w' rv => ?_⟩
    dsimp only at h2
    split at h2
    · rename_i x0 l r0
      obtain ⟨hz, h3⟩ := ite_none h2
      obtain ⟨hz', hz6⟩ := Bool.and_eq_true_iff.mp hz
      obtain ⟨hz'', hz5⟩ := Bool.and_eq_true_iff.mp hz'
      obtain ⟨hz1, hz2⟩ := Bool.and_eq_true_iff.mp hz''
      have bi : i < σ.length := by rw [← en.len]; exact of_decide_eq_true hz5
      have bj : j < σ.length := by rw [← en.len]; exact of_decide_eq_true hz6
      cases h3
      obtain ⟨q1, as, q2, q3, q4, q5⟩ := rv
      unfold LSh at q2
      obtain ⟨t, vs, rfl, q6, q7⟩ := q2
      match vs, q7 with
      | [], q7 => unfold LShs at q7; exact q7.elim
      | [_], q7 => unfold LShs at q7; obtain ⟨_, _, _, _, q8⟩ := q7; unfold LShs at q8; exact q8.elim
      | _ :: _ :: _ :: _, q7 => unfold LShs at q7; obtain ⟨_, _, _, _, q8⟩ := q7; unfold LShs at q8; obtain ⟨_, _, _, _, q9⟩ := q8; unfold LShs at q9; exact q9.elim
      | [u1, u2], q7 =>
        unfold LShs at q7
        obtain ⟨a1, a2, rfl, q8, q9⟩ := q7
        unfold LShs at q9
        obtain ⟨a3, a4, rfl, q10, q11⟩ := q9
        unfold LShs at q11
        subst q11
        obtain ⟨q12, rfl⟩ := lsh_norp x0 u1 a1 hz1 q8
        unfold LSh at q10
        rw [if_neg (by simp [noLs, noL])] at q10
        obtain ⟨b, us, rfl, q13, q14⟩ := q10
        match us, q14 with
        | [], q14 => unfold LShs at q14; exact q14.elim
        | u :: us, q14 =>
          unfold LShs at q14
          obtain ⟨a5, a6, rfl, q15, q16⟩ := q14
          unfold LSh at q15
          rw [if_pos hz2] at q15
          obtain ⟨a, rfl, rfl⟩ := q15
          refine ⟨t, [u1, .ref b], rfl, sqT_mono hd_le q6, rfl, _, _, rfl, _, _, rfl, rfl, ?_⟩
          have ha := q4 a (by simp)
          have ef : flats (.tuple [x0, .list (.list l :: r0)]) = l :: flatsA r0 := by
            simp [flats, flatsA, flats_no _ hz1, hz2, noLs, noL]
          rw [ef] at q5
          obtain ⟨l', ws, y1, y2, y3⟩ := q5.2 0 a (by simp)
          cases y1
          refine ⟨.ref b, by rw [List.getElem?_set_self (by simpa using bj)], ?_⟩
          refine .inl ⟨b, .ref a :: us, 0, .ref a, rfl, rfl, (q13.mono hd_le).sq, by simp [atI, ixN]; try omega, ?_⟩
          refine ⟨u1, by rw [List.getElem?_set_ne (Ne.symm hij), List.getElem?_set_self bi], by show 2 ≤ sizeLine; decide +kernel, fun q hq => ?_⟩
          have cn : Ch O H' (upd H' q (.tup [.ref a, u1])) := ch_new hq
          have qn : q ∉ live O := w'.fresh hq
          have tq : SqT X.K (DL.hd O (upd H' q (.tup [.ref a, u1]))) q [.ref a, u1] := .inl (.inl (hd_of qn upd_same))
          have aH : upd H' q (.tup [.ref a, u1]) a = some (.lst ws) := cn a _ ha.2 y2
          refine p _ O _ .refl (c.trans cn) (w'.new hq) ⟨.tup tq (.cons (.lst (.inl (.inl (hd_of ha.2 aH))) (y3.mono cn.data)) (.cons (q12.mono cn.data) .nil)), [a], ?_, by simp, fun a' ha' => ?_, ?_⟩
          · unfold LSh
            refine ⟨q, _, rfl, tq, ?_⟩
            unfold LShs
            refine ⟨[a], [], by simp, by unfold LSh; rw [if_pos hz2]; exact ⟨a, rfl, rfl⟩, ?_⟩
            unfold LShs
            refine ⟨[], [], rfl, lsh_no (q12.mono cn.data) hz1, ?_⟩
            unfold LShs
            rfl
          · rw [List.mem_singleton.mp ha']
            exact ⟨⟨fun _ => ha.1, fun k hk z => ha.2 (mem_live.mpr ⟨k, z⟩)⟩, ha.2⟩
          · have ef2 : flats (.tuple [.list l, x0]) = [l] := by
              unfold flats
              unfold flatsA
              unfold flatsA
              unfold flatsA
              rw [flats_no _ hz1]
              unfold flats
              rw [if_pos hz2]
              rfl
            rw [ef2]
            refine ⟨rfl, fun k a' hk => ?_⟩
            cases k with
            | zero =>
              simp at hk
              subst hk
              exact ⟨l, ws, rfl, aH, y3.mono cn.data⟩
            | succ k => simp at hk
    · cases h2
end
end DL
/-! GR5: for a, b in [(fresh list, data), ..]: a stands for an owned list. -/
namespace DL
open PySem PySem.Spec PyProof.Rows L2
def shT : D → Option (List D × D)
  | .tuple [.list c, x] => if (noLs c && noL x) = true then some (c, x) else none
  | _ => none
def shTs : List D → Option (List (List D × D))
  | [] => some []
  | d :: ds => (shT d).bind fun p => (shTs ds).map fun r => p :: r
def loopT (b : MS) (n1 i j : Nat) : List (List D × D) → Nat → Rho → Cs → Option Out
  | [], _, ρ, cs => some (.nx ρ cs)
  | d :: ds, k, ρ, cs => (b n1 ((ρ.set i (some (.own k))).set j (some (.dat d.2))) cs).bind fun o => match o with
    | .nx ρ2 cs2 => loopT b n1 i j ds (k + 1) ρ2 cs2
    | .ct ρ2 cs2 => loopT b n1 i j ds (k + 1) ρ2 cs2
    | .bk ρ2 cs2 => some (.nx ρ2 cs2)
    | .rt (.dat d) cs2 => some (.rt (.dat d) cs2)
    | _ => none
def sForT (i j : Nat) (f : MAt) (b : MS) : MS := fun n0 ρ cs => (f ρ cs).bind fun p => (shTs p.1).bind fun ps => if (okCs p.2 && decide (ps.length ≤ sizeLine)) = true then loopT b (p.2.length + ps.length) i j ps p.2.length ρ (p.2 ++ ps.map fun q => some q.1) else none
section
variable {K : PySem.W.Frag} {O : List (Option Addr)} {H H' : Hp} {cs : Cs}
theorem shTs_lsh {h : Hp} : ∀ {ds : List D} {ps : List (List D × D)} {vs : List V} {as : List Addr}, shTs ds = some ps → LShs K h ds vs as →
    flatsA ds = ps.map (·.1) ∧ ds.length = ps.length ∧ (∀ q ∈ ps, noLs q.1 = true ∧ noL q.2 = true) ∧ ∀ (i : Nat) (q : List D × D), ps[i]? = some q → ∃ t a x, vs[i]? = some (.ref t) ∧ SqT K h t [.ref a, x] ∧ as[i]? = some a ∧ Rp K h x q.2
  | [], ps, vs, as, e, q => by
    cases e
    exact ⟨by unfold flatsA; rfl, rfl, nofun, fun i q z => by simp at z⟩
  | d :: ds, ps, [], as, e, q => by unfold LShs at q; exact q.elim
  | d :: ds, ps, v :: vs, as, e, q => by
    obtain ⟨p, h1, e1⟩ := Option.bind_eq_some_iff.mp e
    obtain ⟨r, h2, e2⟩ := Option.map_eq_some_iff.mp e1
    subst e2
    unfold LShs at q
    obtain ⟨a1, a2, rfl, q1, q2⟩ := q
    obtain ⟨z1, z2, z3, z4⟩ := shTs_lsh h2 q2
    unfold shT at h1
    split at h1
    · rename_i c x
      obtain ⟨hz, h3⟩ := ite_none h1
      obtain ⟨y1, y2⟩ := Bool.and_eq_true_iff.mp hz
      cases h3
      unfold LSh at q1
      obtain ⟨t, us, rfl, q3, q4⟩ := q1
      match us, q4 with
      | [], q7 => unfold LShs at q7; exact q7.elim
      | [_], q7 => unfold LShs at q7; obtain ⟨_, _, _, _, q8⟩ := q7; unfold LShs at q8; exact q8.elim
      | _ :: _ :: _ :: _, q7 => unfold LShs at q7; obtain ⟨_, _, _, _, q8⟩ := q7; unfold LShs at q8; obtain ⟨_, _, _, _, q9⟩ := q8; unfold LShs at q9; exact q9.elim
      | [u1, u2], q7 =>
        unfold LShs at q7
        obtain ⟨b1, b2, rfl, q8, q9⟩ := q7
        unfold LShs at q9
        obtain ⟨b3, b4, rfl, q10, q11⟩ := q9
        unfold LShs at q11
        subst q11
        obtain ⟨q12, rfl⟩ := lsh_norp x u2 b3 y2 q10
        unfold LSh at q8
        rw [if_pos y1] at q8
        obtain ⟨a, rfl, rfl⟩ := q8
        refine ⟨?_, by simp [z2], fun q hq => ?_, fun i q hi => ?_⟩
        · simp [flatsA, flats, flats_no _ y2, y1, z1]
        · rcases List.mem_cons.mp hq with rfl | hq
          · exact ⟨y1, y2⟩
          · exact z3 q hq
        · cases i with
          | zero =>
            simp at hi
            subst hi
            exact ⟨t, a, u2, rfl, q3, by simp, q12⟩
          | succ i =>
            obtain ⟨t', a', x', w1, w2, w3, w4⟩ := z4 i q (by simpa using hi)
            exact ⟨t', a', x', by simpa using w1, w2, by simpa using w3, w4⟩
    · cases h1
end
section
variable {X : Cx}
theorem xs_forT {i j : Nat} {x y : Str} {es : List Expr} {body : List Stmt} {f : MAt} {b : MS} {px py pt pos lp : Pos} {kt} (hp : PassesOwn (model X.prog X.w) X.A X.env X.xe) (hc : X.calm = true) (hN : X.N.Nodup) (hi : X.N[i]? = some x) (hj : X.N[j]? = some y) (hx : Loc X.env.scope x) (hy : Loc X.env.scope y)
    (hfx : X.fn x = true ∨ X.env.scope.names.lookup x = some .local) (hfy : X.fn y = true ∨ X.env.scope.names.lookup y = some .local) (ha : XAt X f es) (hb : XSs X b body)
    (hn : (assignEach [.Name x px, .Name y py] X.env).length = 2 := by rfl) (hst : (assignEach [.Name x px, .Name y py] X.env).findIdx? (·.1) = none := by rfl)
    (hs1 : (assignEach [.Name x px, .Name y py] X.env).map (·.2) = assign (.Name x px) X.env :: (assignEach [.Name y py] X.env).map (·.2) := by rfl) (hs2 : (assignEach [.Name y py] X.env).map (·.2) = assign (.Name y py) X.env :: (assignEach [] X.env).map (·.2) := by rfl)
    (hs : ∀ x, foldedSetIterable (.List es lp) X.env x = pure x := by intro _; rfl) : XS X (sForT i j f b) (.For (.Tuple [.Name x px, .Name y py] kt pt) (.List es lp) body [] pos) :=
  ps_weak (ps_for hp hc (pi_list (pe_lst ha)) (pg_tup hc (pgs_cons (pg_name hN hi hx hfx) (pgs_cons (pg_name hN hj hy hfy) pgs_nil hs2) hs1) hn hst) hb hs) fun E σ H ⟨n0, ρ, O, cs, out, e0, hn0, en, w, p⟩ => by
    obtain ⟨⟨ds, cs1⟩, g1, e1⟩ := Option.bind_eq_some_iff.mp e0
    obtain ⟨ps, g2, e2⟩ := Option.bind_eq_some_iff.mp e1
    obtain ⟨hz, g3⟩ := ite_none e2
    obtain ⟨ok1, hz2⟩ := Bool.and_eq_true_iff.mp hz
    have hsz : ps.length ≤ sizeLine := of_decide_eq_true hz2
    clear e0 e1 e2
    refine ⟨ρ, O, cs, ds, cs1, g1, en, w, fun vs H1 c1 w1 ft => ?_⟩
    obtain ⟨rp, as, lsh, nd, hnew, ct⟩ := ft
    obtain ⟨f1, f2, f3, f4⟩ := shTs_lsh g2 lsh
    have lv : vs.length = ps.length := by rw [rp.length, f2]
    refine ⟨by rw [lv]; exact hsz, fun q hq => ⟨q, rfl, ⟨vs, (show LstAt X.K (upd H1 q (.lst vs)) q vs from .inl (.inl upd_same)).sq⟩, ?_⟩⟩
    have cn : Ch O H1 (upd H1 q (.lst vs)) := ch_new hq
    have w2 : Wd X.K O cs1 (upd H1 q (.lst vs)) := w1.new hq
    have nq : q ∉ live O := w1.fresh hq
    have exl : ∀ a ∈ as, ∃ us, H1 a = some (.lst us) := fun a ha => by
      obtain ⟨k, hk⟩ := List.mem_iff_getElem?.mp ha
      obtain ⟨c0, us, _, z, _⟩ := ct.2 k a hk
      exact ⟨us, z⟩
    have nqa : q ∉ as := fun z => by
      obtain ⟨us, e⟩ := exl q z
      rw [hq] at e; cases e
    have ct2 : Cont X.K (hd O (upd H1 q (.lst vs))) (upd H1 q (.lst vs)) as (ps.map (·.1)) := by
      rw [← f1]
      exact ⟨ct.1, fun k a hk => let ⟨c0, us, z1, z2, z3⟩ := ct.2 k a hk; ⟨c0, us, z1, cn a _ (hnew a (List.mem_of_getElem? hk)).2 z2, z3.mono cn.data⟩⟩
    have exl2 : ∀ a ∈ as, ∃ us, upd H1 q (.lst vs) a = some (.lst us) := fun a ha => by
      obtain ⟨us, e⟩ := exl a ha
      exact ⟨us, cn a _ (hnew a ha).2 e⟩
    have la : as.length = ps.length := by rw [ct.1, f1, List.length_map]
    have wa := w2.adopt nd (fun a ha => (hnew a ha).2) ct2 (List.all_eq_true.mpr fun c hc' => by
      obtain ⟨z, z1, z2⟩ := List.mem_map.mp hc'
      subst z2
      exact (f3 z z1).1) ok1
    have ex : Ext O.length O (addO O as) H := ext_add (Nat.le_refl _) fun a ha => (hnew a ha).1
    have c2 : Ch O H (upd H1 q (.lst vs)) := c1.trans cn
    have en2 : EnvOk X.K (addO O as) (upd H1 q (.lst vs)) ρ σ := en.extO ex c2
    have p2 := p.step w wa (ex.low hn0) c2
    have lO : (addO O as).length = cs1.length + ps.length := by unfold addO; rw [List.length_append, List.length_map, la, w1.len]
    have gq : ∀ (k : Nat) (a : Addr), as[k]? = some a → (addO O as)[cs1.length + k]? = some (some a) := fun k a hk => by
      unfold addO
      rw [w1.len, List.getElem?_append_right (by omega), show O.length + k - O.length = k by omega, List.getElem?_map, hk]
      rfl
    have nqO : q ∉ live (addO O as) := fun z => by
      rcases live_add.mp z with z | z
      · exact nq z
      · exact nqa z
    have it : ∀ (k : Nat) (r : List D × D), ps[k]? = some r → ∃ t a u, vs[k]? = some (.ref t) ∧ SqT X.K (hd (addO O as) (upd H1 q (.lst vs))) t [.ref a, u] ∧ (addO O as)[cs1.length + k]? = some (some a) ∧ Rp X.K (hd (addO O as) (upd H1 q (.lst vs))) u r.2 := fun k r hk => by
      obtain ⟨t, a, u, z1, z2, z3, z4⟩ := f4 k r hk
      exact ⟨t, a, u, z1, sqT_hide exl2 (sqT_mono cn.data z2), gq k a z3, (z4.mono cn.data).keep (fun _ _ y => sqT_hide exl2 y) (f3 r (List.mem_of_getElem? hk)).2⟩
    rw [show (cs1.length + ps.length) = (addO O as).length from lO.symm] at g3
    have g4 : loopT b (addO O as).length i j ps cs1.length ρ (cs1 ++ List.map some (ps.map (·.1))) = some out := by rw [List.map_map]; exact g3
    clear g3
    generalize hO1 : addO O as = O1 at *
    generalize hH2 : upd H1 q (.lst vs) = H2 at *
    have hqv : H2 q = some (.lst vs) := by rw [← hH2]; exact upd_same
    refine ⟨fun k m σ' H' => m = ps.length - k ∧ k ≤ ps.length ∧ ∃ ρ' O' cs', loopT b O1.length i j (ps.drop k) (cs1.length + k) ρ' cs' = some out ∧ EnvOk X.K O' H' ρ' σ' ∧ Wd X.K O' cs' H' ∧ Ext O1.length O1 O' H2 ∧ Ch O1 H2 H', ⟨ps.length, by simp, Nat.zero_le _, ρ, O1, _, g4, en2, wa, .refl, .refl⟩, ?_⟩
    rintro k m σ' H' ⟨rfl, hk', ρ', O', cs', e1, en', w', ex', ch'⟩
    have sb : Sub O1 H2 O' H' := Sub.of ex' ch'
    have hn' : O1.length ≤ O'.length := ex'.len (Nat.le_refl _)
    have hn1 : n0 ≤ O1.length := by rw [lO, w1.len]; omega
    have hqv' : H' q = some (.lst vs) := ch' q _ nqO hqv
    have sq : SqL X.K H' q vs := (show LstAt X.K H' q vs from .inl (.inl hqv')).sq
    have p' : PostS X.K n0 O' H' out E := p2.step wa w' (ex'.low hn1) ch'
    by_cases hlt : k < ps.length
    · have hd' : ps[k]? = some ps[k] := List.getElem?_eq_getElem hlt
      rw [List.drop_eq_getElem_cons hlt] at e1
      obtain ⟨o, h3, e3⟩ := Option.bind_eq_some_iff.mp e1
      clear e1
      obtain ⟨t, a, u, z1, z2, z3, z4⟩ := it k _ hd'
      refine .inr ⟨⟨vs, _, sq, z1⟩, fun σ2 H2' => k + 1 ≤ ps.length ∧ ∃ ρ2 O2 cs2, loopT b O1.length i j (ps.drop (k + 1)) (cs1.length + (k + 1)) ρ2 cs2 = some out ∧ EnvOk X.K O2 H2' ρ2 σ2 ∧ Wd X.K O2 cs2 H2' ∧ Ext O1.length O1 O2 H2 ∧ Ch O1 H2 H2', fun σ2 H2' h2 => ⟨ps.length - (k + 1), by omega, rfl, h2⟩, fun v H3 hy => ?_⟩
      obtain ⟨rfl, fx⟩ := hy
      have := fx _ sq
      rw [z1] at this
      cases this
      refine ⟨t, [.ref a, u], rfl, sqT_mono hd_le (sqT_mono sb z2), rfl, _, _, rfl, _, _, rfl, rfl, ?_⟩
      have en4 : EnvOk X.K O' H3 ((ρ'.set i (some (.own (cs1.length + k)))).set j (some (.dat ps[k].2))) ((σ'.set i (some (.ref a))).set j (some u)) :=
        (en'.set i (r := .own (cs1.length + k)) ⟨a, rfl, by rw [ex'.pre _ (List.getElem?_eq_some_iff.mp z3).1]; exact z3⟩).set j (r := .dat ps[k].2) (z4.mono sb)
      refine ⟨O1.length, _, O', cs', o, h3, hn', en4, w', ?_⟩
      have again : ∀ ρ2 cs2, loopT b O1.length i j (ps.drop (k + 1)) (cs1.length + k + 1) ρ2 cs2 = some out → ∀ σ5 O5 H5, Ext O1.length O' O5 H3 → Ch O' H3 H5 → EnvOk X.K O5 H5 ρ2 σ5 → Wd X.K O5 cs2 H5 →
          k + 1 ≤ ps.length ∧ ∃ ρ2 O2 cs2, loopT b O1.length i j (ps.drop (k + 1)) (cs1.length + (k + 1)) ρ2 cs2 = some out ∧ EnvOk X.K O2 H5 ρ2 σ5 ∧ Wd X.K O2 cs2 H5 ∧ Ext O1.length O1 O2 H2 ∧ Ch O1 H2 H5 := fun ρ2 cs2 hl σ5 O5 H5 e5 c5 en5 w5 =>
        ⟨hlt, ρ2, O5, cs2, hl, en5, w5, ex'.trans wa w' ch' e5, ch'.ext ex' c5⟩
      have lw : ∀ {O5 : List (Option Addr)}, Ext O1.length O' O5 H3 → Ext n0 O' O5 H3 := fun e => e.low hn1
      cases o with
      | nx ρ2 cs2 => exact again ρ2 cs2 e3
      | ct ρ2 cs2 => exact again ρ2 cs2 e3
      | bk ρ2 cs2 =>
        cases e3
        exact fun σ5 O5 H5 e5 c5 en5 w5 => p' σ5 O5 H5 (lw e5) c5 en5 w5
      | rt r cs2 =>
        cases r with
        | dat d =>
          cases e3
          exact fun v O5 H5 e5 c5 w5 r5 => p' v O5 H5 (lw e5) c5 w5 r5
        | _ => cases e3
    · have ei : k = ps.length := by omega
      subst ei
      rw [List.drop_length] at e1
      cases e1
      exact .inl ⟨⟨vs, sq, by rw [lv]; exact Nat.le_refl _⟩, p' _ O' H' .refl .refl en' w'⟩
end
end DL
/-! GR6: a def that marks: called with a new list of owned lists. -/
namespace DL
open PySem PySem.Spec PyProof.Rows L2
/-- [f for i in the list in slot t]: its items are owned lists -/
def compG (i : Nat) (f : ME) (ρ : Rho) : List Nat → Cs → List D → Option (List D × Cs)
  | [], cs, acc => some (acc, cs)
  | k :: ks, cs, acc => (f (ρ.set i (some (.own k))) cs).bind fun q => match q.1 with
    | .dat d => if (noL d && okCs q.2 && decide (acc.length < sizeLine)) = true then compG i f ρ ks q.2 (acc ++ [d]) else none
    | _ => none
def allFl (ds : List D) : Bool := ds.all fun d => match d with
  | .list c => noLs c
  | _ => false
def xCompG (t i : Nat) (f : ME) (vs : List Nat) : ME := fun ρ cs => match ρ[t]?.join with
  | some (.gr (.list ds) k n) => if (okCs cs && allFl ds && decide (ds.length = n) && decide (0 < n)) = true then (compG i f (wipeR ρ vs) (List.range' k n) cs []).map fun q => (.fr q.1, q.2) else none
  | _ => none
section
variable {K : PySem.W.Frag} {O : List (Option Addr)} {H H' : Hp} {cs : Cs}
theorem allFl_lsh {h : Hp} : ∀ {ds : List D} {vs : List V} {as : List Addr}, allFl ds = true → LShs K h ds vs as → vs = as.map .ref ∧ as.length = ds.length
  | [], [], as, _, q => by unfold LShs at q; subst q; exact ⟨rfl, rfl⟩
  | [], _ :: _, as, _, q => by unfold LShs at q; exact q.elim
  | _ :: _, [], as, _, q => by unfold LShs at q; exact q.elim
  | d :: ds, v :: vs, as, f, q => by
    unfold allFl at f
    rw [List.all_cons] at f
    obtain ⟨f1, f2⟩ := Bool.and_eq_true_iff.mp f
    unfold LShs at q
    obtain ⟨a1, a2, rfl, q1, q2⟩ := q
    obtain ⟨rfl, h2⟩ := allFl_lsh (ds := ds) f2 q2
    cases d with
    | list c =>
      unfold LSh at q1
      rw [if_pos f1] at q1
      obtain ⟨a, rfl, rfl⟩ := q1
      exact ⟨rfl, by simp [h2]⟩
    | _ => cases f1
theorem noLs_snoc {l : List D} {d : D} (h : noLs l = true) (hd : noL d = true) : noLs (l ++ [d]) = true := by
  induction l with
  | nil => simp [noLs, hd]
  | cons z l ih =>
    simp only [noLs, Bool.and_eq_true] at h
    simp only [List.cons_append, noLs, Bool.and_eq_true]
    exact ⟨h.1, ih h.2⟩
theorem tLcG_of {t i : Nat} {e : ME} {vs : List Nat} (him : i ∈ vs) {σ : L2.St} {Q : VK} (h : tX K (xCompG t i e vs) σ H Q) : tLc (iList K (tVar t)) (gName i) (tXT K mYes) (tX K e) vs σ H Q := by
  obtain ⟨ρ, O, cs, r, cs', e0, en, w, p⟩ := h
  unfold xCompG at e0
  cases hρ : ρ[t]?.join with
  | none => rw [hρ] at e0; cases e0
  | some r0 =>
    rw [hρ] at e0
    have hs : ρ[t]? = some (some r0) := by
      cases q : ρ[t]? with
      | none => rw [q] at hρ; cases hρ
      | some o =>
        rw [q] at hρ
        cases o with
        | none => cases hρ
        | some r' =>
          have e : r' = r0 := Option.some.inj hρ
          rw [e]
    split at e0
    · rename_i ds k n hr
      cases hr
      obtain ⟨hz, e1⟩ := ite_none e0
      obtain ⟨hz1, hz4⟩ := Bool.and_eq_true_iff.mp hz
      obtain ⟨hz2, hz3⟩ := Bool.and_eq_true_iff.mp hz1
      obtain ⟨ok1, hfl⟩ := Bool.and_eq_true_iff.mp hz2
      have hn : ds.length = n := of_decide_eq_true hz3
      have hpos : 0 < n := of_decide_eq_true hz4
      obtain ⟨⟨res, cs9⟩, g2, e2⟩ := Option.map_eq_some_iff.mp e1
      cases e2
      obtain ⟨v, q1, as, q2, q3, q4⟩ := en.slot t _ hs
      unfold LSh at q4
      rw [if_neg (by
        cases ds with
        | nil => simp at hn; omega
        | cons d r =>
          unfold allFl at hfl
          rw [List.all_cons] at hfl
          have := (Bool.and_eq_true_iff.mp hfl).1
          cases d with
          | list c => simp [noLs, noL]
          | _ => cases this)] at q4
      obtain ⟨a, us, rfl, q5, q6⟩ := q4
      obtain ⟨rfl, q7⟩ := allFl_lsh hfl q6
      have sq0 : SqL K H a (as.map .ref) := (q5.mono hd_le).sq
      refine ⟨_, q1, a, rfl, ⟨_, sq0⟩, fun D hD => ?_⟩
      have nD : D ∉ live O := w.fresh hD
      have cN : Ch O H (upd H D (.lst [])) := ch_new hD
      have enb : EnvOk K O H (wipeR ρ vs) (L2.wipe σ vs) := en.wipe vs
      refine ⟨fun j m H' => m = n - j ∧ j ≤ n ∧ ∃ cs2 acc xs, compG i e (wipeR ρ vs) (List.range' (k + j) (n - j)) cs2 acc = some (res, cs9) ∧ okCs cs2 = true ∧ Wd K O cs2 H' ∧ Ch O H H' ∧ H' D = some (.lst xs) ∧ RpAll K (hd O H') xs acc ∧ noLs acc = true,
        ⟨n, by simp, Nat.zero_le _, cs, [], [], g2, ok1, w.new hD, cN, upd_same, .nil, rfl⟩, ?_⟩
      rintro j m H' ⟨rfl, hj', cs2, acc, xs, e3, ok2, w', ch', hDD, ra, na⟩
      have sq : SqL K H' a (as.map .ref) := ((q5.mono ch'.data).mono hd_le).sq
      by_cases hlt : j < n
      · rw [show n - j = (n - (j + 1)) + 1 by omega, List.range'_succ] at e3
        obtain ⟨⟨x, cs4⟩, h2, e5⟩ := Option.bind_eq_some_iff.mp e3
        cases x with
        | dat d =>
          obtain ⟨hy, e6⟩ := ite_none e5
          obtain ⟨hy1, hy2⟩ := Bool.and_eq_true_iff.mp hy
          obtain ⟨hy3, hy4⟩ := Bool.and_eq_true_iff.mp hy1
          have hy5 : acc.length < sizeLine := of_decide_eq_true hy2
          have hja : j < as.length := by omega
          refine .inr ⟨⟨_, _, sq, by rw [List.getElem?_map, List.getElem?_eq_getElem hja]; rfl⟩, fun H2 => j + 1 ≤ n ∧ ∃ cs2 acc xs, compG i e (wipeR ρ vs) (List.range' (k + (j + 1)) (n - (j + 1))) cs2 acc = some (res, cs9) ∧ okCs cs2 = true ∧ Wd K O cs2 H2 ∧ Ch O H H2 ∧ H2 D = some (.lst xs) ∧ RpAll K (hd O H2) xs acc ∧ noLs acc = true, fun H2 h2 => ⟨n - (j + 1), by omega, rfl, h2⟩, fun x H3 hyl => ?_⟩
          obtain ⟨rfl, fx⟩ := hyl
          have hx := fx _ sq
          rw [List.getElem?_map, List.getElem?_eq_getElem hja] at hx
          cases hx
          refine ⟨wipe_set him |>.trans (wipe_wipe σ vs), ?_⟩
          have en4 : EnvOk K O H3 ((wipeR ρ vs).set i (some (.own (k + j)))) ((L2.wipe σ vs).set i (some (.ref as[j]))) := (enb.ch ch').set i (r := .own (k + j)) ⟨_, rfl, q3 j _ (List.getElem?_eq_getElem hja)⟩
          refine ⟨_, O, cs2, true, cs2, rfl, en4, w', fun H5 c5 w5 => ?_⟩
          refine ⟨_, O, cs2, .dat d, cs4, h2, en4.ch c5, w5, fun v H6 c6 w6 rv => ?_⟩
          have chA : Ch O H3 H6 := c5.trans c6
          have hD6 : H6 D = some (.lst xs) := chA D _ nD hDD
          have rv' : Rp K (hd O H6) v d := rv
          refine ⟨xs, hD6, by rw [ra.length]; exact hy5, hlt, cs4, acc ++ [d], xs ++ [v], by rw [show k + (j + 1) = k + j + 1 by omega]; exact e6, hy4, w6.elsewhere hD6 nD hy4, ?_, upd_same, ?_, ?_⟩
          · intro b o nb hb
            have hne : b ≠ D := fun z => by subst z; rw [hD] at hb; cases hb
            rw [upd_ne hne]
            exact (ch'.trans chA) b o nb hb
          · have r1 : RpAll K (hd O (upd H6 D (.lst (xs ++ [v])))) xs acc := (ra.mono chA.data).keep (fun _ _ y => hd_upd_sq hD6 y) na
            have r2 : Rp K (hd O (upd H6 D (.lst (xs ++ [v])))) v d := rv'.keep (fun _ _ y => hd_upd_sq hD6 y) hy3
            exact r1.append (.cons r2 .nil)
          · exact noLs_snoc na hy3
        | _ => cases e5
      · have ej : j = n := by omega
        subst ej
        rw [Nat.sub_self] at e3
        cases e3
        refine .inl ⟨⟨_, sq, by rw [List.length_map]; omega⟩, p _ H' ch' w' ⟨D, rfl, hD, ?_⟩⟩
        exact w'.adopt (as := [D]) (cells := [res]) (by simp) (fun b hb => by rw [List.mem_singleton.mp hb]; exact nD) ⟨rfl, fun l b hb => by
          cases l with
          | zero =>
            simp at hb
            subst hb
            exact ⟨res, xs, rfl, hDD, ra⟩
          | succ l => simp at hb⟩ (by simp [na]) ok2
    · cases e0
/-- a list of truths elsewhere -/
theorem bools_else {p a : Addr} {us ws : List V} {v : V} {b : Bool} {bs : List D} (r : Rp K (hd O H) v (.list (.bool b :: bs))) (nb : noLs bs = true) (hp : H p = some (.lst (.ref a :: us))) : Rp K (hd O (upd H p (.lst ws))) v (.list (.bool b :: bs)) := by
  cases r with
  | lst q ra =>
    have rb : RpAll K (hd O (upd H p (.lst ws))) _ (.bool b :: bs) := ra.keep (fun _ _ y => hd_upd_sq hp y) (by simp [noLs, noL, nb])
    refine .lst ?_ rb
    rcases q with (q | ⟨o, q⟩) | q
    · obtain ⟨m, e⟩ := hd_some q
      refine .inl (.inl (hd_of m ?_))
      rw [upd_ne (fun z => ?_)]
      · exact e
      · subst z
        rw [hp] at e
        cases e
        cases ra with
        | cons r1 _ => cases r1
    · obtain ⟨m, e⟩ := hd_some q
      refine .inl (.inr ⟨o, hd_of m ?_⟩)
      rw [upd_ne (fun z => ?_)]
      · exact e
      · subst z
        rw [hp] at e
        cases e
    · exact .inr q
end
section
variable {X : Cx}
/-- x.append("..") -/
theorem ps_appS {x : Nat} {nm z : Str} {p1 apos cpos pos p2 : Pos} {k2} (hN : X.N[x]? = some nm) (hv : Vis X.env.scope nm)
    (hs : starEach [.Constant (.str z) k2 p2] X.env = (false, eval (.Constant (.str z) k2 p2) X.env) :: starEach [] X.env := by rfl)
    (hbase : attributeBase (.Name nm p1) "append" X.env (eval (.Name nm p1) X.env) = eval (.Name nm p1) X.env := by rfl)
    (hfew : ((backTo cpos (starEach [.Constant (.str z) k2 p2] X.env)).all (fun x => !x.1) && (backToKw cpos (keywordEach [] X.env)).all (fun x => x.1.isSome)
      && decide ([Expr.Constant (.str z) k2 p2].length + ([] : List Keyword).length + (if ([] : List Keyword).isEmpty then 0 else 1) < 30)) = true := by rfl)
    (hline : (apos.endLine == cpos.line) = true := by rfl) (hplain : (backTo cpos (starEach [] X.env)).any (·.1) = false := by rfl)
    (hsw : swapsWith (.Call (.Attribute (.Name nm p1) "append" apos) [.Constant (.str z) k2 p2] [] cpos) none pos.line X.env = pure false := by rfl)
    (hd : (nm == ("__debug__" : Str)) = false := by decide) (hcd : (nm == ("__classdict__" : Str)) = false := by decide) :
    PS X (.Expr (.Call (.Attribute (.Name nm p1) "append" apos) [.Constant (.str z) k2 p2] [] cpos) pos) (fun D σ H => ∃ a vs, σ[x]? = some (some (.ref a)) ∧ H a = some (.lst vs) ∧ vs.length < sizeLine ∧ D.nx σ (upd H a (.lst (vs ++ [.str z])))) :=
  ps_weak (ps_expr (pe_bm PySem.F.plainAttrs_list PySem.F.slot_list_append PySem.F.type_list_append mt_append (pe_var hN hv hd hcd) (pa_cons pe_str pa_nil hs) hbase hfew hline hs hplain) hsw) fun D σ H ⟨a, vs, h1, h2, h3, h4⟩ =>
    ⟨_, h1, .inl ⟨rfl, _, .inl (.inl h2)⟩, a, vs, .str z, rfl, rfl, h2, h3, h4⟩
end
end DL
/-! GR7: a def that marks, on a new list of owned lists: its body, its contract, the call. -/
namespace DL
open PySem PySem.Spec PyProof.Rows L2
def appT (x : Nat) (z : Str) : TS := fun D σ H => ∃ a vs, σ[x]? = some (some (.ref a)) ∧ H a = some (.lst vs) ∧ vs.length < sizeLine ∧ D.nx σ (upd H a (.lst (vs ++ [.str z])))
def setG (K : PySem.W.Frag) (it kp : Nat) (e : ME) (vs : List Nat) : TS := tAsg (tLc (iList K (tVar 0)) (gName it) (tXT K mYes) (tX K e) vs) (gName kp)
def mkT (K : PySem.W.Frag) (t1 t2 : MT) (T2 : TS) (it kp : Nat) (e : ME) (vs : List Nat) (z : Str) (s5 : MS) (TL : TS) : TS :=
  tSeq (tIfS (tXT K t1) (tSeq (tIfS (tXT K t2) T2 tNext) (tSeq (setG K it kp e vs) (tSeq (appT 0 z) (tS K s5)))) tNext) TL
section
variable {X : Cx}
theorem mk_pss {t1 t2 : MT} {T2 TL : TS} {it kp : Nat} {e : ME} {vs : List Nat} {z : Str} {s5 : MS} {c1 c2 : Expr} {b2 : List Stmt} {st3 st4 st5 stL : Stmt} {pos1 pos2 : Pos} (ht : XT X t1 c1) (ht2 : XT X t2 c2) (hb2 : PSs X b2 T2) (h3 : PS X st3 (setG X.K it kp e vs)) (h4 : PS X st4 (appT 0 z)) (h5 : XS X s5 st5) (hl : PS X stL TL) :
    PSs X [.If c1 [.If c2 b2 [] pos2, st3, st4, st5] [] pos1, stL] (mkT X.K t1 t2 T2 it kp e vs z s5 TL) :=
  pss_cons (ps_if ht (pss_cons (ps_if ht2 hb2 pss_nil) (pss_cons h3 (pss_cons h4 (pss_one h5)))) pss_nil) (pss_one hl)
/-- kept = [f(item) for item in told] -/
theorem ps_setG {i it : Nat} {y tn : Str} {py p1 p2 : Pos} {elt : Expr} {scope : Scope} {own : List (Str × Nat)} {pos spos : Pos} {e : ME} {inm : Str} (hc : X.calm = true) (hN : X.N.Nodup) (hy : X.N[i]? = some y) (hyl : X.env.scope.names.lookup y = some .local)
    (hsw : swapsWith (.ListComp elt [⟨.Name inm p1, .Name tn p2, [], 0⟩] scope pos) (some (.Name y py)) spos.line X.env = pure true) (ht : X.N[0]? = some tn) (htv : Vis X.env.scope tn) (ok : BlkOk X.N X.env.scope scope own) (hit : it ∈ own.map (·.2))
    (hg : BlkX X scope fun Y => PG Y (.Name inm p1) (gName it)) (he : BlkX X scope fun Y => XE Y e elt) (hs : ∀ x, foldedSetIterable (.Name tn p2) X.env x = pure x := by intro _; rfl)
    (hd : (tn == ("__debug__" : Str)) = false := by decide) (hcd : (tn == ("__classdict__" : Str)) = false := by decide) :
    PS X (.Assign [.Name y py] (.ListComp elt [⟨.Name inm p1, .Name tn p2, [], 0⟩] scope pos) spos) (setG X.K it i e (own.map (·.2))) := by
  have hg' : ∀ (s : Shared) (H : Hp) (C : Addr) (cl : List (Str × Addr)) (fp : List Addr), PG (X.blk s H scope (compEnvC scope cl C X.env) fp) (.Name inm p1) (gName it) := hg
  have ht' : ∀ (s : Shared) (H : Hp) (C : Addr) (cl : List (Str × Addr)) (fp : List Addr), PTs (X.blk s H scope (compEnvC scope cl C X.env) fp) [] (tXT X.K mYes) := fun _ _ _ _ _ => xts_nil
  have he' : ∀ (s : Shared) (H : Hp) (C : Addr) (cl : List (Str × Addr)) (fp : List Addr), PE (X.blk s H scope (compEnvC scope cl C X.env) fp) elt (tX X.K e) := he
  exact ps_setLc hc hN hy hyl hsw (pi_list (pe_var ht htv hd hcd)) ok hg' ht' he' hs
end
/-- what the body computes -/
structure MkB (t1 t2 : MT) (it kp : Nat) (e : ME) (vs : List Nat) (s5 : MS) (N : Nat) (ds : List D) (k n : Nat) (cs : Cs) (d : D) (cs' : Cs) : Prop where
  kp0 : kp ≠ 0
  kpN : kp < N
  itm : it ∈ vs
  t1_ : t1 (some (.gr (.list ds) k n) :: List.replicate (N - 1) none) cs = some (true, cs)
  t2_ : t2 (some (.gr (.list ds) k n) :: List.replicate (N - 1) none) cs = some (false, cs)
  rest : ∃ cs1 b bs, xCompG 0 it e vs (some (.gr (.list ds) k n) :: List.replicate (N - 1) none) cs = some (.fr (.bool b :: bs), cs1) ∧ okCs cs1 = true ∧ noLs bs = true ∧
    s5 cs.length ((List.replicate N none).set kp (some (.dat (.list (.bool b :: bs))))) cs1 = some (.rt (.dat d) cs')
section
variable {K : PySem.W.Frag} {O : List (Option Addr)} {H : Hp} {cs : Cs}
theorem mk_run {t1 t2 : MT} {T2 TL : TS} {it kp : Nat} {e : ME} {vs : List Nat} {z : Str} {s5 : MS} {ds : List D} {k n : Nat} {d : D} {cs' : Cs} {N : List Str} {p : Addr} {us : List V} {u0 : Addr} {E : Ends} (m : MkB t1 t2 it kp e vs s5 N.length ds k n cs d cs') (w : Wd K O cs H) (np : p ∉ live O)
    (g : GrA K O H (.list ds) k n (.ref p)) (hp : H p = some (.lst (.ref u0 :: us))) (hz : us.length + 1 < sizeLine)
    (post : ∀ v H3, (∀ a o, a ∉ live O → a ≠ p → H a = some o → H3 a = some o) → Wd K O (cs'.take cs.length) H3 → Rp K (hd O H3) v d → E.rt v H3) : mkT K t1 t2 T2 it kp e vs z s5 TL E (L2.start N [.ref p]) H := by
  have en : EnvOk K O H (some (.gr (.list ds) k n) :: List.replicate (N.length - 1) none) (L2.start N [.ref p]) := start_env (N := N) (rs := [.gr (.list ds) k n]) (vs := [.ref p]) ⟨g, trivial⟩
  obtain ⟨cs1, b, bs, e3, ok1, nb, e5⟩ := m.rest
  have s0 : (L2.start N [.ref p])[0]? = some (some (.ref p)) := rfl
  refine ⟨_, O, cs, true, cs, m.t1_, en, w, fun H1 c1 w1 => ?_⟩
  change (if _ then _ else _)
  rw [if_pos rfl]
  refine ⟨_, O, cs, false, cs, m.t2_, en.ch c1, w1, fun H2 c2 w2 => ?_⟩
  change (if _ then _ else _)
  rw [if_neg (by decide)]
  have c02 : Ch O H H2 := c1.trans c2
  show tSeq (setG K it kp e vs) (tSeq (appT 0 z) (tS K s5)) _ _ H2
  show tAsg (tLc (iList K (tVar 0)) (gName it) (tXT K mYes) (tX K e) vs) (gName kp) _ _ H2
  refine tLcG_of m.itm ⟨_, O, cs, .fr (.bool b :: bs), cs1, e3, en.ch c02, w2, fun v H3 c3 w3 rv => ?_⟩
  have c03 : Ch O H H3 := c02.trans c3
  have rl : Rp K (hd O H3) v (.list (.bool b :: bs)) := rv.deg
  have hp3 : H3 p = some (.lst (.ref u0 :: us)) := c03 p _ np hp
  have lN : (L2.start N [.ref p]).length = N.length := by
    rw [← en.len]
    have := m.kpN
    simp
    omega
  refine ⟨p, .ref u0 :: us, by rw [List.getElem?_set_ne m.kp0]; exact s0, hp3, hz, ?_⟩
  have w4 := w3.elsewhere (ws := .ref u0 :: us ++ [.str z]) hp3 np ok1
  have rl4 := bools_else (ws := .ref u0 :: us ++ [.str z]) rl nb hp3
  refine ⟨cs.length, _, O, cs1, _, e5, by rw [w.len]; exact Nat.le_refl _, ⟨by simp [lN], fun j r hj => ?_⟩, w4, fun v' O' H5 ex c5 w5 r5 => ?_⟩
  · by_cases ej : kp = j
    · subst ej
      rw [List.getElem?_set_self (by simpa using m.kpN)] at hj
      cases hj
      exact ⟨v, by rw [List.getElem?_set_self (by rw [lN]; exact m.kpN)], rl4⟩
    · rw [List.getElem?_set_ne ej, List.getElem?_replicate] at hj
      split at hj <;> cases hj
  · have eO : O'.take cs.length = O := ex.take_eq w.len
    have w6 := w5.take cs.length
    rw [eO] at w6
    have sb : ∀ a o, hd O' H5 a = some o → hd O H5 a = some o := fun a o q => by
      obtain ⟨y, e⟩ := hd_some q
      exact hd_of (fun x => y (live_take (n := cs.length) (by rw [eO]; exact x))) e
    refine post v' H5 (fun a o na ne ha => ?_) w6 (Rp.mono sb r5)
    refine c5 a o na ?_
    rw [upd_ne ne]
    exact c03 a o na ha
end
/-- a body's run, for the caller: any text of the body -/
theorem fn_run {P : Program} {w : World} {K : PySem.W.Frag} {mg : Str → Option Value} {base : Heap} {k : Nat} {f : Addr} {x qual : Str} {params : Arguments} {body : List Stmt} {scope : Scope} {dvs : List V} {kws : List (Str × V)} {fd : FuncData} {N ps : List Str} {T : TS}
    (F : FunD K x qual params body scope dvs kws f fd) (S : FnScope N ps scope)
    (hb : ∀ (cdv : Value) (A : Around) (outer : List Env) (s : Shared) (H : Hp), Room k (A.deeper (envOfC qual scope s.heap.objs.size f cdv)) → Rm (cxD P w K mg base N qual scope f cdv A outer s H) → PSs (cxD P w K mg base N qual scope f cdv A outer s H) body T)
    (A : Around) (outer : List Env) (s : Shared) (H : Hp) (args : Args) (us : List Value) (vs : List V) (Q : VK)
    (hg : A.guards = some []) (hnd : base.NoDigits) (hr : Room (k + 1) A) (e0 : Env0 P w K mg base A outer s H) (hbd : BindsTo s fd args (ps.zip us)) (rv : Vals vs us) (hl : vs.length = ps.length)
    (ht : T { nx := fun _ H' => Q .non H', rt := Q } (L2.start N vs) H) :
    codeAny (model P w) A (.call (.ref f) args) (CR CX0 outer P w H s Q E0) s := by
  obtain ⟨oc, od, dV, kV, doc, pm, an, cdv, ct, osl, rfl, lk, hcd, _, _⟩ := F.ex
  have KX : K.In s.heap := e0.mod.kin.keeps fun a o e => (e0.bs a o e).1
  have lim : s.heap.NoLimit := e0.mod.nolimit.keeps fun a o e => (e0.bs a o e).1
  refine codeAny_call_function hr.depth (KX _ _ lk) rfl S.co S.gen rfl (PySem.W.codeRec_of KX hcd) (hbd _ _ _ _ ?_)
  refine wpAny_newFunctionEnv_cells S.kind (fun y hy => ?_) fun env he s1 xx => ?_
  · rcases S.par y.1 (List.of_mem_zip hy).1 with q | q
    · exact .inl q
    · exact .inr ⟨q, PySem.W.cellsFrom_some _ _ _ (.inl q)⟩
  · subst he
    refine ⟨lim.keeps xx.toInCall.keep, codeAny_func ?_⟩
    have I := inv_start (CX := CX0) (E := E0) (qual := qual) (f := f) (cd := cdv) (outer := outer) S hr.hd e0 hl rv xx
    have hr' := hr.deeper (envOfC qual scope s.heap.objs.size f cdv)
    have rm : Rm (cxD P w K mg base N qual scope f cdv A outer s H) := ⟨hr.hd, by
      have := hr'.un
      show (A.deeper (envOfC qual scope s.heap.objs.size f cdv)).units + 200 < cLine
      omega, by show A.guards = some []; exact hg, rfl, hnd⟩
    have hbody := PSs.nox (hb cdv A outer s H hr' rm)
    refine wpAny_mono (hbody.run [] s1 (L2.start N vs) H { nx := fun _ H' => Q .non H', rt := Q } I ht) (fun fl s' hs => ?_) fun e s' hs => hs
    cases fl with
    | ret u =>
      obtain ⟨v, σ', H', J, rv', q⟩ := hs
      exact ⟨v, H', J.os, J.bare, J.base, J.hok, rv', q⟩
    | next =>
      obtain ⟨σ', H', J, q⟩ := hs
      exact ⟨V.non, H', J.os, J.bare, J.base, J.hok, rfl, q⟩
    | brk =>
      obtain ⟨_, _, _, q⟩ := hs
      exact q.elim
    | cont =>
      obtain ⟨_, _, _, q⟩ := hs
      exact q.elim
/-- a def that marks, called with a new list of owned lists: mo: the cells' numbers, what is marked -/
structure CalO (P : Program) (w : World) (K : PySem.W.Frag) (mg : Str → Option Value) (base : Heap) (k : Nat) (x : Str) (st : Stmt) (ps : List Str) (mo : List D → Nat → Nat → Cs → D → Cs → Prop) : Prop where
  ex : ∃ (f : Addr) (fd : FuncData), FunD K x x (defArgs st) (defBody st) (defScope st) [] [] f fd ∧ mg x = some (.ref f) ∧ Binds K fd ps [] ∧ ps.length = 1 ∧
    ∀ (A : Around) (outer : List Env) (s : Shared) (H : Hp) (args : Args) (us : List Value) (Q : VK) (O : List (Option Addr)) (cs cs' : Cs) (ds : List D) (j n : Nat) (d : D) (p u0 : Addr) (ws : List V),
      A.guards = some [] → base.NoDigits → Room k A → Env0 P w K mg base A outer s H → BindsTo s fd args (ps.zip us) → Vals [.ref p] us → Wd K O cs H → p ∉ live O → GrA K O H (.list ds) j n (.ref p) → H p = some (.lst (.ref u0 :: ws)) → ws.length + 1 < sizeLine → mo ds j n cs d cs' →
      (∀ v H3, (∀ a o, a ∉ live O → a ≠ p → H a = some o → H3 a = some o) → Wd K O (cs'.take cs.length) H3 → Rp K (hd O H3) v d → Q v H3) →
      codeAny (model P w) A (.call (.ref f) args) (CR CX0 outer P w H s Q E0) s
theorem calO_of {P : Program} {w : World} {K : PySem.W.Frag} {mg : Str → Option Value} {base : Heap} {k : Nat} {x : Str} {st : Stmt} {ps N : List Str} {t1 t2 : MT} {T2 TL : TS} {it kp : Nat} {e : ME} {vs : List Nat} {z : Str} {s5 : MS} (F : ∃ f fd, FunD K x x (defArgs st) (defBody st) (defScope st) [] [] f fd ∧ mg x = some (.ref f)) (S : FnScope N ps (defScope st)) (h1 : ps.length = 1)
    (hb : ∀ (kV doc pm : Value) (an : Option Addr) (cdv ct : Value) (us : List Value), us.length = ps.length → bindArgs (PySem.W.fnOf x x (defArgs st) (defBody st) (defScope st) .none kV doc pm an cdv ct) ⟨us, []⟩ = pure (ps.zip us))
    (h : ∀ (f : Addr) (cdv : Value) (A : Around) (outer : List Env) (s : Shared) (H : Hp), Room k (A.deeper (envOfC x (defScope st) s.heap.objs.size f cdv)) → Rm (cxD P w K mg base N x (defScope st) f cdv A outer s H) → PSs (cxD P w K mg base N x (defScope st) f cdv A outer s H) (defBody st) (mkT K t1 t2 T2 it kp e vs z s5 TL)) :
    CalO P w K mg base (k + 1) x st ps (MkB t1 t2 it kp e vs s5 N.length) := by
  obtain ⟨f, fd, F, hm⟩ := F
  refine ⟨f, fd, F, hm, F.bindsN hb, h1, fun A outer s H args us Q O cs cs' ds j n d p u0 ws hg hnd hr e0 hbd rv wd np g hp hz m post => ?_⟩
  exact fn_run F S (fun cdv A outer s H hr rm => h f cdv A outer s H hr rm) A outer s H args us [.ref p] Q hg hnd hr e0 hbd rv (by rw [h1]; rfl) (mk_run m wd np g hp hz post)
/-! ### the call -/
/-- owned cells one behind the other -/
def isRun : Nat → List Rv → Bool
  | _, [] => true
  | k, .own j :: rs => j == k && isRun (k + 1) rs
  | _, _ => false
def cellsL : Cs → Option (List D)
  | [] => some []
  | some c :: r => (cellsL r).map fun l => .list c :: l
  | none :: _ => none
def cellsOf (cs : Cs) (k n : Nat) : Option (List D) := cellsL ((cs.drop k).take n)
theorem cellsL_len : ∀ {cs : Cs} {ds : List D}, cellsL cs = some ds → ds.length = cs.length
  | [], ds, h => by cases h; rfl
  | some c :: r, ds, h => by
    obtain ⟨l, h1, h2⟩ := Option.map_eq_some_iff.mp h
    subst h2
    simp [cellsL_len h1]
  | none :: _, ds, h => by cases h
def mMark (mo : List D → Nat → Nat → Cs → Option (D × Cs)) (fa : MA) : ME := fun ρ cs => (fa ρ cs).bind fun p => match p.1 with
  | .own k :: rs => if (isRun (k + 1) rs && decide (rs.length + 2 < sizeLine)) = true then (cellsOf p.2 k (rs.length + 1)).bind fun ds => if (allFl ds && okCs p.2) = true then (mo ds k (rs.length + 1) p.2).map fun q => (.dat q.1, q.2.take p.2.length) else none else none
  | _ => none
section
variable {K : PySem.W.Frag} {O : List (Option Addr)} {H : Hp} {cs : Cs}
theorem isRun_ar : ∀ {rs : List Rv} {k : Nat} {vs : List V}, isRun k rs = true → ArRs K O H rs vs → ∃ as : List Addr, vs = as.map .ref ∧ as.length = rs.length ∧ ∀ (i : Nat) (a : Addr), as[i]? = some a → O[k + i]? = some (some a)
  | [], k, [], _, _ => ⟨[], rfl, rfl, fun i a e => by simp at e⟩
  | [], k, _ :: _, _, h => h.elim
  | _ :: _, k, [], _, h => h.elim
  | r :: rs, k, v :: vs, e, h => by
    cases r with
    | own j =>
      unfold isRun at e
      obtain ⟨e1, e2⟩ := Bool.and_eq_true_iff.mp e
      have ej : j = k := by simpa using e1
      subst ej
      obtain ⟨a, rfl, ha⟩ := h.1
      obtain ⟨as, rfl, h2, h3⟩ := isRun_ar e2 h.2
      refine ⟨a :: as, rfl, by simp [h2], fun i b hb => ?_⟩
      cases i with
      | zero => simp at hb; subst hb; exact ha
      | succ i =>
        have := h3 i b (by simpa using hb)
        rw [show j + (i + 1) = j + 1 + i by omega]
        exact this
    | _ => cases e
theorem lshs_of {h : Hp} : ∀ {ds : List D} {as : List Addr}, allFl ds = true → as.length = ds.length → LShs K h ds (as.map .ref) as
  | [], [], _, _ => by unfold LShs; rfl
  | [], _ :: _, _, e => by simp at e
  | _ :: _, [], _, e => by simp at e
  | d :: ds, a :: as, f, e => by
    unfold allFl at f
    rw [List.all_cons] at f
    obtain ⟨f1, f2⟩ := Bool.and_eq_true_iff.mp f
    show LShs K h (d :: ds) (.ref a :: as.map .ref) (a :: as)
    unfold LShs
    refine ⟨[a], as, rfl, ?_, lshs_of (ds := ds) f2 (by simpa using e)⟩
    cases d with
    | list c =>
      unfold LSh
      rw [if_pos f1]
      exact ⟨a, rfl, rfl⟩
    | _ => cases f1
theorem cellsOf_len {k n : Nat} {ds : List D} (h : cellsOf cs k n = some ds) (hk : k + n ≤ cs.length) : ds.length = n := by
  have := cellsL_len h
  rw [List.length_take, List.length_drop] at this
  omega
end
section
variable {X : Cx}
theorem xe_mark {k : Nat} {x : Str} {st : Stmt} {ps : List Str} {mo : List D → Nat → Nat → Cs → Option (D × Cs)} {mp : List D → Nat → Nat → Cs → D → Cs → Prop} {j : Nat} {es : List Expr} {fa : MA} {p pos lp : Pos} (C : CalO X.prog X.w X.K X.mg X.base j x st ps mp) (hmo : ∀ ds a n cs d cs', cellsOf cs a n = some ds → ds.length = n → 0 < n → a + n ≤ cs.length → allFl ds = true → okCs cs = true → mo ds a n cs = some (d, cs') → mp ds a n cs d cs') (hr0 : Room k X.A) (rm : Rm X) (ha : XA X fa es) (hj : j ≤ k := by decide)
    (hg : Gl X x := by rfl) (hdb : (x == ("__debug__" : Str)) = false := by decide)
    (he : starEach [.List es lp] X.env = (false, eval (.List es lp) X.env) :: starEach [] X.env := by rfl) (hpl : (backTo pos (starEach [] X.env)).any (·.1) = false := by rfl) : XE X (mMark mo fa) (.Call (.Name x p) [.List es lp] [] pos) := by
  obtain ⟨f, fd, F, hm, hb, h1, run⟩ := C.ex
  have hr := hr0.mono hj
  refine ⟨fun pins s σ H Q I ⟨ρ, O, cs, r, cs', e0, en, w, pq⟩ => ?_⟩
  obtain ⟨⟨rs, cs1⟩, g1, e1⟩ := Option.bind_eq_some_iff.mp e0
  dsimp only at e1
  split at e1
  · rename_i k0 rs
    obtain ⟨hz, e2⟩ := ite_none e1
    obtain ⟨hz1, hz2⟩ := Bool.and_eq_true_iff.mp hz
    have hsz : rs.length + 2 < sizeLine := of_decide_eq_true hz2
    obtain ⟨ds, g2, e3⟩ := Option.bind_eq_some_iff.mp e2
    obtain ⟨hz3, e4⟩ := ite_none e3
    obtain ⟨hfl, ok1⟩ := Bool.and_eq_true_iff.mp hz3
    obtain ⟨⟨d, cs2⟩, g3, e5⟩ := Option.map_eq_some_iff.mp e4
    cases e5
    refine wpAny_Call_Name_kw (ld_glob I hg hm ?_ hdb)
    have hrun := (pa_cons (pe_lst ha) pa_nil he).run pos pins s σ H (fun vs H' => ∃ (q : Addr) (as : List Addr) (H1 : Hp), vs = [.ref q] ∧ H1 q = none ∧ H' = upd H1 q (.lst (as.map .ref)) ∧ Ch O H H1 ∧ Wd X.K O cs1 H1 ∧ as.length = rs.length + 1 ∧ ∀ (i : Nat) (a : Addr), as[i]? = some a → O[k0 + i]? = some (some a)) I ⟨ρ, O, cs, .own k0 :: rs, cs1, g1, en, w, fun vs H1 c1 w1 ra => by
      obtain ⟨as, rfl, h2, h3⟩ := isRun_ar (k := k0) (rs := .own k0 :: rs) (by unfold isRun; simp [hz1]) ra
      refine ⟨by rw [List.length_map, h2]; simp; omega, fun q hq => ⟨q, as, H1, rfl, hq, rfl, c1, w1, by simpa using h2, h3⟩⟩⟩
    refine PySem.W.callWith_K (h₀ := X.base) I.ok.mod.kin F.kp (thn hrun fun us s1 hus => ?_) he hpl
    obtain ⟨vs, H', I1, rv, q, as, H1, rfl, hq, rfl, c1, w1, hl, hO⟩ := hus
    refine ⟨I1.kIn, ?_⟩
    have hb' := hb s1 us I1.kIn (by rw [List.append_nil, ← rv.length, h1]; rfl)
    rw [List.append_nil] at hb'
    have nq : q ∉ live O := w1.fresh hq
    have w2 : Wd X.K O cs1 (upd H1 q (.lst (as.map .ref))) := w1.new hq
    have hcl : k0 + (rs.length + 1) ≤ cs1.length := by
      rw [w1.len]
      have hi : rs.length < as.length := by omega
      have := (List.getElem?_eq_some_iff.mp (hO rs.length _ (List.getElem?_eq_getElem hi))).1
      omega
    have hdl := cellsOf_len g2 hcl
    obtain ⟨a0, as', rfl⟩ : ∃ a0 as', as = a0 :: as' := by
      cases as with
      | nil => simp at hl
      | cons a as => exact ⟨a, as, rfl⟩
    have gr : GrA X.K O (upd H1 q (.lst ((a0 :: as').map .ref))) (.list ds) k0 (rs.length + 1) (.ref q) := by
      refine ⟨a0 :: as', hl, hO, ?_⟩
      unfold LSh
      rw [if_neg (by
        cases ds with
        | nil => simp at hdl
        | cons d r =>
          unfold allFl at hfl
          rw [List.all_cons] at hfl
          have := (Bool.and_eq_true_iff.mp hfl).1
          cases d with
          | list c => simp [noLs, noL]
          | _ => cases this)]
      exact ⟨q, _, rfl, .inl (.inl (hd_of nq upd_same)), lshs_of hfl (by rw [hl, hdl])⟩
    refine wpAny_call (codeAny_mono (run X.A X.stack s1 _ ⟨us, []⟩ us Q O cs1 cs2 ds k0 (rs.length + 1) d q a0 (as'.map .ref) rm.gd rm.nd hr I1.env0 hb' rv w2 nq gr upd_same (by simp at hl ⊢; omega) (hmo _ _ _ _ _ _ g2 hdl (Nat.succ_pos _) hcl hfl ok1 g3) (fun v H3 c3 w3 r3 => ?_)) fun r s' hq' => ?_)
    · refine pq v H3 (fun a o na ha => ?_) w3 r3
      have h1a := c1 a o na ha
      have ne : a ≠ q := fun z => by subst z; rw [hq] at h1a; cases h1a
      exact c3 a o na ne (by rw [upd_ne ne]; exact h1a)
    · cases r with
      | error e => exact hq'.elim
      | ok fl => cases fl with
        | ret u => exact I1.after hq'
        | next => exact hq'
        | brk => exact hq'
        | cont => exact hq'
  · cases e1
end
end DL
/-! GR8: a name's fresh list replaced by another; words for the rules. -/
namespace DL
open PySem PySem.Spec PyProof.Rows L2
def dropR (k : Nat) (ρ : Rho) : Rho := ρ.map fun r => match r with
  | some (.own j) => if j < k then some (.own j) else none
  | some (.gr d j n) => if j + n ≤ k then some (.gr d j n) else none
  | r => r
/-- name = another fresh list; the name's old one, the last cell, is given up -/
def sReo (i : Nat) (f : ME) : MS := fun n0 ρ cs => (ρ[i]?.join).bind fun r => match r with
  | .own k => if n0 ≤ k then (f ρ cs).bind fun p => match p.1 with
    | .fr c => if p.2.length = k + 1 then some (.nx ((dropR k ρ).set i (some (.own k))) (p.2.take k ++ [some c])) else none
    | _ => none
    else none
  | _ => none
section
variable {K : PySem.W.Frag}
theorem Wd.reo {O : List (Option Addr)} {cs : Cs} {H : Hp} {p : Addr} {c : List D} (w : Wd K (O ++ [some p]) (cs ++ [some c]) H) (k : Nat) (hk : cs.length = k + 1) : Wd K (O.take k ++ [some p]) (cs.take k ++ [some c]) H := by
  have hl : O.length = k + 1 := by
    have := w.len
    simp at this
    omega
  have sp : ∀ {i : Nat} {x : Option Addr}, (O.take k ++ [some p])[i]? = some x → (i < k ∧ (O ++ [some p])[i]? = some x) ∨ (i = k ∧ x = some p) := fun {i x} q => by
    by_cases hi : i < k
    · rw [List.getElem?_append_left (by simp; omega), List.getElem?_take_of_lt hi] at q
      exact .inl ⟨hi, by rw [List.getElem?_append_left (by omega)]; exact q⟩
    · rw [List.getElem?_append_right (by simp; omega)] at q
      have h0 : i - (O.take k).length = 0 := by
        have := (List.getElem?_eq_some_iff.mp q).1
        simp at this ⊢; omega
      rw [h0] at q
      simp at q
      refine .inr ⟨?_, q.symm⟩
      simp at h0
      omega
  have sb : ∀ a o, hd (O ++ [some p]) H a = some o → hd (O.take k ++ [some p]) H a = some o := fun a o q => by
    obtain ⟨m, e⟩ := hd_some q
    refine hd_of (fun z => m ?_) e
    obtain ⟨i, q2⟩ := mem_live.mp z
    rcases sp q2 with ⟨_, q3⟩ | ⟨_, q3⟩
    · exact mem_live.mpr ⟨i, q3⟩
    · cases q3
      exact mem_live.mpr ⟨O.length, by simp⟩
  have np : ∀ i, i < k → (O ++ [some p])[i]? ≠ some (some p) := fun i hi z => by
    have := w.inj i O.length p z (by simp)
    omega
  refine ⟨by simp; omega, fun i j a a1 a2 => ?_, fun i a a1 => ?_, fun i a1 => ?_⟩
  · rcases sp a1 with ⟨i1, i2⟩ | ⟨i1, i2⟩ <;> rcases sp a2 with ⟨j1, j2⟩ | ⟨j1, j2⟩
    · exact w.inj i j a i2 j2
    · cases j2; exact absurd i2 (np i i1)
    · cases i2; exact absurd j2 (np j j1)
    · omega
  · rcases sp a1 with ⟨i1, i2⟩ | ⟨i1, i2⟩
    · obtain ⟨c', vs', q1, q2, q3⟩ := w.cell i a i2
      refine ⟨c', vs', ?_, q2, q3.mono sb⟩
      rw [List.getElem?_append_left (by omega)] at q1
      rw [List.getElem?_append_left (by simp; omega), List.getElem?_take_of_lt i1]
      exact q1
    · cases i2
      obtain ⟨c', vs', q1, q2, q3⟩ := w.cell O.length p (by simp)
      have hlc : O.length = cs.length := by omega
      rw [hlc] at q1
      simp at q1
      subst q1
      refine ⟨c, vs', ?_, q2, q3.mono sb⟩
      subst i1
      rw [List.getElem?_append_right (by simp; omega)]
      simp [hk]
  · rcases sp a1 with ⟨i1, i2⟩ | ⟨i1, i2⟩
    · have := w.ded i i2
      rw [List.getElem?_append_left (by omega)] at this
      rw [List.getElem?_append_left (by simp; omega), List.getElem?_take_of_lt i1]
      exact this
    · cases i2
theorem EnvOk.drop {O O' : List (Option Addr)} {H H' : Hp} {ρ : Rho} {σ : L2.St} {k : Nat} (en : EnvOk K O H ρ σ) (hO : ∀ i, i < k → O'[i]? = O[i]?) (sb : Sub O H O' H') : EnvOk K O' H' (dropR k ρ) σ := by
  refine ⟨by unfold dropR; simp [en.len], fun j r hj => ?_⟩
  unfold dropR at hj
  rw [List.getElem?_map] at hj
  cases q : ρ[j]? with
  | none => rw [q] at hj; cases hj
  | some r0 =>
    rw [q] at hj
    cases r0 with
    | none => cases hj
    | some r1 =>
      obtain ⟨v, q1, q2⟩ := en.slot j _ q
      cases r1 with
      | dat d => cases hj; exact ⟨v, q1, Rp.mono sb q2⟩
      | fr l => exact q2.elim
      | ft l => exact q2.elim
      | exn nm d => cases hj; exact ⟨v, q1, ExAt.mono sb q2⟩
      | own l =>
        obtain ⟨a, e, q3⟩ := q2
        have hj' : (if l < k then some (Rv.own l) else none) = some r := Option.some.inj hj
        split at hj'
        · rename_i hl
          cases hj'
          exact ⟨v, q1, a, e, by rw [hO l hl]; exact q3⟩
        · cases hj'
      | gr d l n =>
        have hj' : (if l + n ≤ k then some (Rv.gr d l n) else none) = some r := Option.some.inj hj
        split at hj'
        · rename_i hl
          cases hj'
          obtain ⟨as, z1, z2, z3⟩ := q2
          exact ⟨v, q1, as, z1, fun i a hi => by
            have := (List.getElem?_eq_some_iff.mp hi).1
            rw [hO _ (by omega)]; exact z2 i a hi, z3.mono sb⟩
        · cases hj'
theorem tReo_of {i : Nat} {f : ME} {E : Ends} {σ : L2.St} {H : Hp} (h : tS K (sReo i f) E σ H) : tAsg (tX K f) (gName i) E σ H := by
  obtain ⟨n0, ρ, O, cs, out, e0, hn, en, w, p⟩ := h
  obtain ⟨r, h1, e1⟩ := Option.bind_eq_some_iff.mp e0
  cases r with
  | own k =>
    obtain ⟨hk, e2⟩ := ite_none e1
    obtain ⟨⟨x, cs1⟩, h2, e3⟩ := Option.bind_eq_some_iff.mp e2
    refine ⟨ρ, O, cs, x, cs1, h2, en, w, fun v H' c w' rv => ?_⟩
    cases x with
    | fr l =>
      obtain ⟨hl, e4⟩ := ite_none e3
      cases e4
      obtain ⟨q, rfl, hq, w2⟩ := rv
      have hl' : cs1.length = k + 1 := hl
      have lO : O.length = k + 1 := by rw [← w'.len]; exact hl'
      have w3 := w2.reo k hl'
      have hpre : ∀ j, j < k → (O.take k ++ [some q])[j]? = O[j]? := fun j hj => by
        rw [List.getElem?_append_left (by simp; omega), List.getElem?_take_of_lt hj]
      have ex : Ext n0 O (O.take k ++ [some q]) H := ⟨fun j hj => hpre j (by omega), fun a ha => by
        obtain ⟨j, q2⟩ := mem_live.mp ha
        by_cases hj : j < k
        · rw [hpre j hj] at q2
          exact .inl (mem_live.mpr ⟨j, q2⟩)
        · rw [List.getElem?_append_right (by simp; omega)] at q2
          have h0 : j - (O.take k).length = 0 := by
            have := (List.getElem?_eq_some_iff.mp q2).1
            simp at this ⊢; omega
          rw [h0] at q2
          simp at q2
          subst q2
          exact .inr hq⟩
      refine p _ _ H' ex c ((en.drop hpre (Sub.of ex c)).set i (r := .own k) ⟨q, rfl, ?_⟩) w3
      have lt : (O.take k).length = k := by rw [List.length_take]; omega
      rw [List.getElem?_append_right (by omega), lt, Nat.sub_self]
      rfl
    | _ => cases e3
  | _ => cases e1
end
section
variable {X : Cx} {x y : Str}
theorem w_reo (i : Nat) {e : Expr} {f : ME} {pos pos' : Pos} (hN : X.N.Nodup) (he : XE X f e) (hi : X.N[i]? = some x := by rfl) (hx : Loc X.env.scope x := by first | exact Or.inl rfl | exact Or.inr rfl) (hs : swapsWith e (some (.Name x pos')) pos.line X.env = pure false := by rfl)
    (hf : X.fn x = true ∨ X.env.scope.names.lookup x = some .local := by first | exact .inl rfl | exact .inr rfl) : XS X (sReo i f) (.Assign [.Name x pos'] e pos) := ps_weak (ps_set hN hi hx he hs hf) fun D σ H h => tReo_of h
theorem w_unp (i j : Nat) {e : Expr} {f : ME} {px py pt pos : Pos} {kt} (hN : X.N.Nodup) (he : XE X f e) (hc : X.calm = true := by rfl) (hi : X.N[i]? = some x := by rfl) (hj : X.N[j]? = some y := by rfl) (hx : Loc X.env.scope x := by first | exact Or.inl rfl | exact Or.inr rfl) (hy : Loc X.env.scope y := by first | exact Or.inl rfl | exact Or.inr rfl)
    (hfx : X.fn x = true ∨ X.env.scope.names.lookup x = some .local := by first | exact .inl rfl | exact .inr rfl) (hfy : X.fn y = true ∨ X.env.scope.names.lookup y = some .local := by first | exact .inl rfl | exact .inr rfl)
    (hs : swapsWithSole [.Tuple [.Name x px, .Name y py] kt pt] e pos.line X.env = pure false := by rfl) (hw : swappedStores [.Tuple [.Name x px, .Name y py] kt pt] e X.env = pure none := by rfl)
    (h1 : (assignEach [.Tuple [.Name x px, .Name y py] kt pt] X.env).map (·.2) = [assign (.Tuple [.Name x px, .Name y py] kt pt) X.env] := by rfl)
    (hn : (assignEach [.Name x px, .Name y py] X.env).length = 2 := by rfl) (hst : (assignEach [.Name x px, .Name y py] X.env).findIdx? (·.1) = none := by rfl)
    (hs1 : (assignEach [.Name x px, .Name y py] X.env).map (·.2) = assign (.Name x px) X.env :: (assignEach [.Name y py] X.env).map (·.2) := by rfl) (hs2 : (assignEach [.Name y py] X.env).map (·.2) = assign (.Name y py) X.env :: (assignEach [] X.env).map (·.2) := by rfl) :
    XS X (sUnp i j f) (.Assign [.Tuple [.Name x px, .Name y py] kt pt] e pos) := xs_unp hc hN hi hj hx hy he hfx hfy hs hw h1 hn hst hs1 hs2
theorem w_pick (i j : Nat) {e : Expr} {f : ME} {px py pt pos p2 p3 p4 p5 : Pos} {kt k2 k3} (hN : X.N.Nodup) (he : XE X f e) (hij : i ≠ j := by decide) (hc : X.calm = true := by rfl) (hi : X.N[i]? = some x := by rfl) (hj : X.N[j]? = some y := by rfl) (hx : Loc X.env.scope x := by first | exact Or.inl rfl | exact Or.inr rfl) (hy : Loc X.env.scope y := by first | exact Or.inl rfl | exact Or.inr rfl)
    (hvx : Vis X.env.scope x := by first | exact Or.inl rfl | exact Or.inr (Or.inl rfl) | exact Or.inr (Or.inr rfl)) (hvy : Vis X.env.scope y := by first | exact Or.inl rfl | exact Or.inr (Or.inl rfl) | exact Or.inr (Or.inr rfl))
    (hfx : X.fn x = true ∨ X.env.scope.names.lookup x = some .local := by first | exact .inl rfl | exact .inr rfl) (hfy : X.fn y = true ∨ X.env.scope.names.lookup y = some .local := by first | exact .inl rfl | exact .inr rfl)
    (hs : swapsWithSole [.Tuple [.Name x px, .Name y py] kt pt] e pos.line X.env = pure false := by rfl) (hw : swappedStores [.Tuple [.Name x px, .Name y py] kt pt] e X.env = pure none := by rfl)
    (h1 : (assignEach [.Tuple [.Name x px, .Name y py] kt pt] X.env).map (·.2) = [assign (.Tuple [.Name x px, .Name y py] kt pt) X.env] := by rfl)
    (hn : (assignEach [.Name x px, .Name y py] X.env).length = 2 := by rfl) (hst : (assignEach [.Name x px, .Name y py] X.env).findIdx? (·.1) = none := by rfl)
    (hs1 : (assignEach [.Name x px, .Name y py] X.env).map (·.2) = assign (.Name x px) X.env :: (assignEach [.Name y py] X.env).map (·.2) := by rfl) (hs2 : (assignEach [.Name y py] X.env).map (·.2) = assign (.Name y py) X.env :: (assignEach [] X.env).map (·.2) := by rfl)
    (hdx : (x == ("__debug__" : Str)) = false := by decide) (hcx : (x == ("__classdict__" : Str)) = false := by decide) (hdy : (y == ("__debug__" : Str)) = false := by decide) (hcy : (y == ("__classdict__" : Str)) = false := by decide)
    (hpl : PlainIx (.Constant (.int 0) k3 p3) := by exact fun _ _ => rfl)
    (hr1 : starEach [.Subscript (.Name y p2) (.Constant (.int 0) k3 p3) p4, .Name x p5] X.env = (false, eval (.Subscript (.Name y p2) (.Constant (.int 0) k3 p3) p4) X.env) :: starEach [.Name x p5] X.env := by rfl)
    (hr2 : starEach [.Name x p5] X.env = (false, eval (.Name x p5) X.env) :: starEach [] X.env := by rfl) {p6 p7 : Pos} :
    XSs X (sPick i j f) [.Assign [.Tuple [.Name x px, .Name y py] kt pt] e pos, .Return (some (.Tuple [.Subscript (.Name y p2) (.Constant (.int 0) k3 p3) p4, .Name x p5] k2 p6)) p7] :=
  xs_pick hc hN hij hi hj hx hy he hvx hvy hfx hfy hs hw h1 hn hst hs1 hs2 hdx hcx hdy hcy hpl hr1 hr2
theorem w_forT (i j : Nat) {es : List Expr} {body : List Stmt} {f : MAt} {b : MS} {px py pt pos lp : Pos} {kt} (hN : X.N.Nodup) (ha : XAt X f es) (hb : XSs X b body) (hp : PassesOwn (model X.prog X.w) X.A X.env X.xe := by exact PassesOwn.never) (hc : X.calm = true := by rfl) (hi : X.N[i]? = some x := by rfl) (hj : X.N[j]? = some y := by rfl) (hx : Loc X.env.scope x := by first | exact Or.inl rfl | exact Or.inr rfl) (hy : Loc X.env.scope y := by first | exact Or.inl rfl | exact Or.inr rfl)
    (hfx : X.fn x = true ∨ X.env.scope.names.lookup x = some .local := by first | exact .inl rfl | exact .inr rfl) (hfy : X.fn y = true ∨ X.env.scope.names.lookup y = some .local := by first | exact .inl rfl | exact .inr rfl)
    (hn : (assignEach [.Name x px, .Name y py] X.env).length = 2 := by rfl) (hst : (assignEach [.Name x px, .Name y py] X.env).findIdx? (·.1) = none := by rfl)
    (hs1 : (assignEach [.Name x px, .Name y py] X.env).map (·.2) = assign (.Name x px) X.env :: (assignEach [.Name y py] X.env).map (·.2) := by rfl) (hs2 : (assignEach [.Name y py] X.env).map (·.2) = assign (.Name y py) X.env :: (assignEach [] X.env).map (·.2) := by rfl)
    (hs : ∀ x, foldedSetIterable (.List es lp) X.env x = pure x := by intro _; rfl) : XS X (sForT i j f b) (.For (.Tuple [.Name x px, .Name y py] kt pt) (.List es lp) body [] pos) :=
  xs_forT hp hc hN hi hj hx hy hfx hfy ha hb hn hst hs1 hs2 hs
end
def isIntD : D → Bool
  | .int _ => true
  | _ => false
/-- lists of owned cells (whole numbers), marked with z -/
def unMk : List D → Bool
  | [] => true
  | .list c :: r => c.all isIntD && decide (c.length + 1 < sizeLine) && unMk r
  | _ :: _ => false
def mkCs (z : Str) : Nat → Nat → Cs → Cs
  | _, 0, cs => cs
  | k, n + 1, cs => mkCs z (k + 1) n (cs.set k (cs[k]?.join.map fun c => c ++ [.str z]))
def moMk (z : Str) (ds : List D) (k n : Nat) (cs : Cs) : Option (D × Cs) := if (unMk ds && decide (n ≤ 1000)) = true then some (.bool true, mkCs z k n cs) else none
end DL
/-! EVB: running the mirrors of borrows, fresh trees, marks. -/
namespace DL
open PySem PySem.Spec PyProof.Rows L2
section
variable {ρ : Rho} {cs : Cs} {n0 : Nat} {QS : Out → Prop}
theorem ev_bor_dat {i : Nat} {f : ME} {Q : Rv → Cs → Prop} {d : D} (h : ρ[i]? = some (some (.dat d))) (e : Ev f ρ cs Q) : Ev (mBor i f) ρ cs Q := by
  unfold Ev mBor
  rw [show ρ[i]?.join = some (.dat d) by rw [h]; rfl]
  exact e
theorem borR_own {k : Nat} {c : List D} (h : cs[k]? = some (some c)) : borR (.own k) cs = some (.list c, k, 1) := by
  unfold borR
  simp only [h]
def BQ (Q : Rv → Cs → Prop) (cs : Cs) (k n : Nat) : Rv → Cs → Prop := fun r cs1 => match r with
  | .dat s => noL s = true ∧ okCs cs1 = true ∧ Q (.dat s) (backC cs1 cs k n)
  | .fr l => noLs l = true ∧ okCs cs1 = true ∧ okCs cs = true ∧ Q (.fr l) (backC cs1 cs k n)
  | _ => False
theorem ev_bor_of {i k n : Nat} {r : Rv} {d : D} {f : ME} {Q : Rv → Cs → Prop} (h1 : ρ[i]? = some (some r)) (hr : ∀ d, r ≠ .dat d) (h2 : borR r cs = some (d, k, n)) (e : Ev f ((hidR k n ρ).set i (some (.dat d))) (offL cs k n) (BQ Q cs k n)) : Ev (mBor i f) ρ cs Q := by
  have hj : ρ[i]?.join = some r := by rw [h1]; rfl
  have main : Ev (fun ρ cs => (borR r cs).bind fun b => (f ((hidR b.2.1 b.2.2 ρ).set i (some (.dat b.1))) (offL cs b.2.1 b.2.2)).bind fun q => match q.1 with
    | .dat s => if (noL s && okCs q.2) = true then some (.dat s, backC q.2 cs b.2.1 b.2.2) else none
    | .fr c => if (noLs c && okCs q.2 && okCs cs) = true then some (.fr c, backC q.2 cs b.2.1 b.2.2) else none
    | _ => none) ρ cs Q := by
    show wpo ((borR r cs).bind _) Q
    rw [h2]
    show wpo ((f _ _).bind _) Q
    rw [wpo_bind]
    refine wpo_mono e fun x cs1 q => ?_
    cases x with
    | dat s =>
      obtain ⟨q1, q2, q3⟩ := q
      show wpo (if _ then _ else _) Q
      rw [if_pos (by rw [q1, q2]; rfl)]
      exact q3
    | fr l =>
      obtain ⟨q1, q2, q3, q4⟩ := q
      show wpo (if _ then _ else _) Q
      rw [if_pos (by rw [q1, q2, q3]; rfl)]
      exact q4
    | _ => exact q.elim
  unfold Ev mBor
  rw [hj]
  cases r with
  | dat d => exact absurd rfl (hr d)
  | _ => exact main
theorem ev_bor {i k : Nat} {c : List D} {f : ME} {Q : Rv → Cs → Prop} (h1 : ρ[i]? = some (some (.own k))) (h2 : cs[k]? = some (some c)) (e : Ev f ((hidR k 1 ρ).set i (some (.dat (.list c)))) (offL cs k 1) (BQ Q cs k 1)) : Ev (mBor i f) ρ cs Q := ev_bor_of h1 nofun (borR_own h2) e
theorem et_bor_dat {i : Nat} {f : MT} {Q : Bool → Cs → Prop} {d : D} (h : ρ[i]? = some (some (.dat d))) (e : Et f ρ cs Q) : Et (mBorT i f) ρ cs Q := by
  unfold Et mBorT
  rw [show ρ[i]?.join = some (.dat d) by rw [h]; rfl]
  exact e
theorem et_bor_of {i k n : Nat} {r : Rv} {d : D} {f : MT} {Q : Bool → Cs → Prop} (h1 : ρ[i]? = some (some r)) (hr : ∀ d, r ≠ .dat d) (h2 : borR r cs = some (d, k, n)) (e : Et f ((hidR k n ρ).set i (some (.dat d))) (offL cs k n) fun b cs1 => okCs cs1 = true ∧ Q b (backC cs1 cs k n)) : Et (mBorT i f) ρ cs Q := by
  have hj : ρ[i]?.join = some r := by rw [h1]; rfl
  have main : Et (fun ρ cs => (borR r cs).bind fun b => (f ((hidR b.2.1 b.2.2 ρ).set i (some (.dat b.1))) (offL cs b.2.1 b.2.2)).bind fun q => if okCs q.2 = true then some (q.1, backC q.2 cs b.2.1 b.2.2) else none) ρ cs Q := by
    show wpo ((borR r cs).bind _) Q
    rw [h2]
    show wpo ((f _ _).bind _) Q
    rw [wpo_bind]
    refine wpo_mono e fun x cs1 ⟨q2, q3⟩ => ?_
    show wpo (if _ then _ else _) Q
    rw [if_pos q2]
    exact q3
  unfold Et mBorT
  rw [hj]
  cases r with
  | dat d => exact absurd rfl (hr d)
  | _ => exact main
theorem et_bor {i k : Nat} {c : List D} {f : MT} {Q : Bool → Cs → Prop} (h1 : ρ[i]? = some (some (.own k))) (h2 : cs[k]? = some (some c)) (e : Et f ((hidR k 1 ρ).set i (some (.dat (.list c)))) (offL cs k 1) fun b cs1 => okCs cs1 = true ∧ Q b (backC cs1 cs k 1)) : Et (mBorT i f) ρ cs Q := et_bor_of h1 nofun (borR_own h2) e
theorem off_snoc {c : List D} : offL (cs ++ [some c]) cs.length 1 = cs ++ [none] := by
  apply List.ext_getElem?
  intro i
  rw [off_get]
  unfold inG
  by_cases h1 : i < cs.length
  · rw [if_neg (by simp; omega), List.getElem?_append_left h1, List.getElem?_append_left h1]
  · by_cases h2 : i = cs.length
    · subst h2
      rw [if_pos (by simp)]
      simp
    · rw [List.getElem?_eq_none (by simp; omega), List.getElem?_eq_none (by simp; omega)]
      simp
theorem back_snoc {c : List D} {x : Option (List D)} : backC (cs ++ [x]) (cs ++ [some c]) cs.length 1 = cs ++ [some c] := by
  apply List.ext_getElem?
  intro i
  rw [back_get]
  unfold inG
  by_cases h1 : i < cs.length
  · rw [if_neg (by simp; omega), List.getElem?_append_left h1, List.getElem?_append_left h1]
  · by_cases h2 : i = cs.length
    · subst h2
      rw [if_pos (by simp)]
      simp
    · rw [List.getElem?_eq_none (by simp; omega), List.getElem?_eq_none (by simp; omega)]
      simp
theorem okCs_app {a b : Cs} : okCs (a ++ b) = (okCs a && okCs b) := by unfold okCs; rw [List.all_append]
theorem es_reo {i k : Nat} {f : ME} (h1 : ρ[i]? = some (some (.own k))) (hk : n0 ≤ k) (e : Ev f ρ cs fun x cs1 => ∃ c, x = .fr c ∧ cs1.length = k + 1 ∧ QS (.nx ((dropR k ρ).set i (some (.own k))) (cs1.take k ++ [some c]))) : Es (sReo i f) n0 ρ cs QS := by
  unfold Es sReo
  rw [show ρ[i]?.join = some (.own k) by rw [h1]; rfl]
  show wpd (if n0 ≤ k then _ else none) QS
  rw [if_pos hk, wpo_bindd]
  refine wpo_mono e fun x cs1 ⟨c, h2, h3, h4⟩ => ?_
  subst h2
  show wpd (if cs1.length = k + 1 then _ else none) QS
  rw [if_pos h3]
  exact h4
/-! trees -/
def Eat (f : MAt) (ρ : Rho) (cs : Cs) (Q : List D → Cs → Prop) : Prop := wpo (f ρ cs) Q
@[simp] theorem eat_nil {Q : List D → Cs → Prop} : Eat tnil ρ cs Q ↔ Q [] cs := Iff.rfl
@[simp] theorem eat_cons {fa : ME} {fr : MAt} {Q : List D → Cs → Prop} : Eat (tcons fa fr) ρ cs Q ↔ Ev fa ρ cs fun x cs1 => wpd (trD x) fun d => Eat fr ρ cs1 fun ds cs2 => Q (d :: ds) cs2 := by
  unfold Eat Ev tcons
  rw [wpo_bind]
  refine iff_of_eq (congrArg _ (funext fun x => funext fun cs1 => propext ?_))
  rw [wpd_bindo]
  refine iff_of_eq (congrArg _ (funext fun d => propext ?_))
  exact wpo_map
@[simp] theorem trD_ft {d : D} : trD (.ft d) = some d := rfl
theorem trD_dat {d : D} (h : noL d = true) : trD (.dat d) = some d := if_pos h
@[simp] theorem trD_int {i : Int} : trD (.dat (.int i)) = some (.int i) := rfl
theorem trD_fr {l : List D} (h : noLs l = true) : trD (.fr l) = some (.list l) := if_pos h
@[simp] theorem ev_mTupT {f : MAt} {Q : Rv → Cs → Prop} : Ev (mTupT f) ρ cs Q ↔ Eat f ρ cs fun ds cs1 => ds.length ≤ sizeLine ∧ Q (.ft (.tuple ds)) cs1 := by
  unfold Ev Eat mTupT
  rw [wpo_bind]
  refine iff_of_eq (congrArg _ (funext fun x => funext fun cs1 => propext ?_))
  rw [wpo_ite]
  exact Iff.rfl
/-- comprehensions of fresh lists that change no cell -/
theorem ec_pureF {h : MG} {f : ME} (F : D → List D) : ∀ {ds : List D} {acc : List (List D)}, (∀ d ∈ ds, Eg h d ρ fun ρ1 => Ev f ρ1 cs fun r cs1 => r = .fr (F d) ∧ cs1 = cs) → (∀ d ∈ ds, noLs (F d) = true) → okCs cs = true → acc.length + ds.length ≤ sizeLine → compF h f ds ρ cs acc = some (acc ++ ds.map F, cs)
  | [], acc, _, _, _, _ => by simp [compF]
  | d :: ds, acc, h1, h2, ok, hz => by
    obtain ⟨ρ1, e1, e2⟩ := wpd_iff.mp (h1 d (List.mem_cons_self ..))
    obtain ⟨r, cs1, e3, hr, hc⟩ := wpo_iff.mp e2
    rw [hr, hc] at e3
    unfold compF
    rw [e1]
    show (f ρ1 cs).bind _ = _
    rw [e3]
    show (if _ then _ else _) = _
    rw [List.length_cons] at hz
    rw [if_pos (by rw [h2 d (List.mem_cons_self ..), ok]; simp; omega), ec_pureF F (fun d' h' => h1 d' (List.mem_cons_of_mem _ h')) (fun d' h' => h2 d' (List.mem_cons_of_mem _ h')) ok (by rw [List.length_append]; simp; omega)]
    simp
theorem ev_compF {i : MI} {h : MG} {f : ME} {vs : List Nat} {Q : Rv → Cs → Prop} (F : D → List D) (e : Ei i ρ cs fun ds cs1 => okCs cs1 = true ∧ (∀ d ∈ ds, Eg h d (wipeR ρ vs) fun ρ1 => Ev f ρ1 cs1 fun r cs2 => r = .fr (F d) ∧ cs2 = cs1) ∧ (∀ d ∈ ds, noLs (F d) = true) ∧ ds.length ≤ sizeLine ∧ Q (.ft (.list (ds.map fun d => .list (F d)))) cs1) : Ev (xCompF i h f vs) ρ cs Q := by
  unfold Ev xCompF
  rw [wpo_bind]
  refine wpo_mono e fun ds cs1 ⟨h0, h1, h2, h3, h4⟩ => ?_
  show wpo (if okCs cs1 = true then _ else none) Q
  rw [if_pos h0, ec_pureF F h1 h2 h0 (by simpa using h3)]
  show Q (.ft (.list ((([] : List (List D)) ++ ds.map F).map .list))) cs1
  simpa [List.map_map, Function.comp_def] using h4
theorem es_unp {i j : Nat} {f : ME} {c : List D} {d : D} {cs1 : Cs} (e : f ρ cs = some (.ft (.tuple [.list c, d]), cs1)) (h1 : noLs c = true) (h2 : noL d = true) (h3 : okCs cs1 = true) (q : QS (.nx ((ρ.set i (some (.own cs1.length))).set j (some (.dat d))) (cs1 ++ [some c]))) : Es (sUnp i j f) n0 ρ cs QS := by
  unfold Es sUnp
  rw [e]
  show wpd (if _ then _ else none) QS
  rw [if_pos (by rw [h1, h2, h3]; rfl)]
  exact q
theorem es_pick {i j : Nat} {f : ME} {c : List D} {x : D} {r : List D} {cs1 : Cs} (e : f ρ cs = some (.ft (.tuple [x, .list (.list c :: r)]), cs1)) (h1 : noL x = true) (h2 : noLs c = true) (hi : i < ρ.length) (hj : j < ρ.length) (q : QS (.rt (.ft (.tuple [.list c, x])) cs1)) : Es (sPick i j f) n0 ρ cs QS := by
  unfold Es sPick
  rw [e]
  show wpd (if _ then _ else none) QS
  rw [if_pos (by rw [h1, h2]; simp [hi, hj])]
  exact q
/-- for a, b in a display of fresh lists -/
theorem es_forT {i j : Nat} {f : MAt} {b : MS} {ds : List D} {ps : List (List D × D)} {cs1 : Cs} (e : f ρ cs = some (ds, cs1)) (h1 : shTs ds = some ps) (h2 : okCs cs1 = true) (h3 : ps.length ≤ sizeLine) (q : wpd (loopT b (cs1.length + ps.length) i j ps cs1.length ρ (cs1 ++ ps.map fun q => some q.1)) QS) : Es (sForT i j f b) n0 ρ cs QS := by
  unfold Es sForT
  rw [e]
  show wpd ((shTs ds).bind _) QS
  rw [h1]
  show wpd (if _ then _ else none) QS
  rw [if_pos (by rw [h2]; simp [h3])]
  exact q
theorem lt_nil {b : MS} {n1 i j k : Nat} : wpd (loopT b n1 i j [] k ρ cs) QS ↔ QS (.nx ρ cs) := Iff.rfl
theorem lt_cons {b : MS} {n1 i j k : Nat} {p : List D × D} {ps : List (List D × D)} (e : Es b n1 ((ρ.set i (some (.own k))).set j (some (.dat p.2))) cs fun o => match o with
    | .nx ρ2 cs2 => wpd (loopT b n1 i j ps (k + 1) ρ2 cs2) QS
    | _ => False) : wpd (loopT b n1 i j (p :: ps) k ρ cs) QS := by
  unfold loopT
  rw [wpd_bind]
  refine wpd_mono e fun o h => ?_
  cases o with
  | nx ρ2 cs2 => exact h
  | _ => exact h.elim
/-- the call that marks owned lists -/
theorem ev_mark {mo : List D → Nat → Nat → Cs → Option (D × Cs)} {fa : MA} {Q : Rv → Cs → Prop} {k : Nat} {rs : List Rv} {cs1 cs2 : Cs} {ds : List D} {d : D} (e : fa ρ cs = some (.own k :: rs, cs1)) (h1 : isRun (k + 1) rs = true) (h2 : rs.length + 2 < sizeLine) (h3 : cellsOf cs1 k (rs.length + 1) = some ds) (h4 : allFl ds = true) (h5 : okCs cs1 = true) (h6 : mo ds k (rs.length + 1) cs1 = some (d, cs2)) (q : Q (.dat d) (cs2.take cs1.length)) : Ev (mMark mo fa) ρ cs Q := by
  unfold Ev mMark
  rw [e]
  show wpo (if _ then _ else none) Q
  rw [if_pos (by rw [h1]; simp [h2]), h3]
  show wpo (if _ then _ else none) Q
  rw [if_pos (by rw [h4, h5]; rfl), h6]
  exact q
end
theorem noLs_ints : ∀ l : List Int, noLs (l.map .int) = true
  | [] => rfl
  | c :: l => by
    show noLs (.int c :: l.map .int) = true
    unfold noLs
    rw [noLs_ints l]
    rfl
end DL
namespace My
open PySem PySem.Spec PyProof.Rows L2 DL
def b_is_count : MS :=
  (sRet (mAnd (mCallF 1 m_is_whole (aCons (xVar 0) aNil)) (mB dGe (xVar 0) (xC (.int 0)))))
def m_is_count : MF := fnM 1 b_is_count
def b_is_poly : MS :=
  (sSeq (sIf (mTOr (mTNot (mTru (mU (dIsi "list") (xVar 0)))) (mTNot (mTru (mCall dAll (aCons (xComp (iSeq (xVar 0)) (gNm 1) mYes (mCallF 1 m_is_whole (aCons (xVar 1) aNil)) [1]) aNil))))) (sRet (xC (.bool false))) sNil)
  (sRet (mOr (mB dEq (xVar 0) (xLst aNil)) (mB dNe (mB dIx (xVar 0) (mU dNeg (xC (.int 1)))) (xC (.int 0))))))
def m_is_poly : MF := fnM 2 b_is_poly
def b_check_poly : MS :=
  (sIf (mTNot (mTru (mCallF 1 m_is_poly (aCons (xVar 0) aNil)))) sNev sNil)
def m_check_poly : MF := fnM 1 b_check_poly
noncomputable def b_cut_poly : MS :=
  (sSeq (sSet 1 (mCall dLen (aCons (xVar 0) aNil)))
  (sSeq (sWh (mTAnd (mTB (mB dGt (xVar 1) (xC (.int 0)))) (mTB (mB dEq (mB dIx (xVar 0) (mB dSub (xVar 1) (xC (.int 1)))) (xC (.int 0))))) (sSet 1 (mB dSub (xVar 1) (xC (.int 1)))))
  (sRet (mSl (xVar 0) oNone (oSome (xVar 1))))))
noncomputable def m_cut_poly : MF := fnM 2 b_cut_poly
def b_worth_in : MS :=
  (sSeq (sSet 2 (xC (.int 0)))
  (sSeq (sFor (iSeq (mU dRev (xVar 0))) (gNm 3) (sSet 2 (mB dAdd (mB dMul (xVar 2) (xVar 1)) (xVar 3))))
  (sRet (xVar 2))))
def m_worth_in : MF := fnM 4 b_worth_in
noncomputable def b_sum_in : MS :=
  (sSeq (sAsg (mIf (mTB (mB dGe (mCall dLen (aCons (xVar 0) aNil)) (mCall dLen (aCons (xVar 1) aNil)))) (xTup (aCons (xVar 0) (aCons (xVar 1) aNil))) (xTup (aCons (xVar 1) (aCons (xVar 0) aNil)))) (gTp 2 (gsCons (gNm 3) (gsCons (gNm 4) gsNil))))
  (sSeq (sSet 2 (mB dAdd (xComp (iEn (aCons (mSl (xVar 3) oNone (oSome (mCall dLen (aCons (xVar 4) aNil)))) aNil)) (gTp 2 (gsCons (gNm 5) (gsCons (gNm 6) gsNil))) mYes (mB dAdd (xVar 6) (mB dIx (xVar 4) (xVar 5))) [5, 6]) (mSl (xVar 3) (oSome (mCall dLen (aCons (xVar 4) aNil))) oNone)))
  (sRet (mCallF 1 m_cut_poly (aCons (xVar 2) aNil)))))
noncomputable def m_sum_in : MF := fnM 7 b_sum_in
def b_scaled_in : MS :=
  (sRet (mIf (mTB (mB dNe (xVar 1) (xC (.int 0)))) (xComp (iSeq (xVar 0)) (gNm 2) mYes (mB dMul (xVar 1) (xVar 2)) [2]) (xLst aNil)))
def m_scaled_in : MF := fnM 3 b_scaled_in
def b_product_in : MS :=
  (sSeq (sIf (mTOr (mTB (mB dEq (xVar 0) (xLst aNil))) (mTB (mB dEq (xVar 1) (xLst aNil)))) (sRet (xLst aNil)) sNil)
  (sSeq (sOwn 2 (mB dMul (xLst (aCons (xC (.int 0)) aNil)) (mB dSub (mB dAdd (mCall dLen (aCons (xVar 0) aNil)) (mCall dLen (aCons (xVar 1) aNil))) (xC (.int 1)))))
  (sSeq (sFor (iEn (aCons (xVar 0) aNil)) (gTp 2 (gsCons (gNm 3) (gsCons (gNm 4) gsNil))) (sIf (mTB (mB dNe (xVar 4) (xC (.int 0)))) (sFor (iEn (aCons (xVar 1) aNil)) (gTp 2 (gsCons (gNm 5) (gsCons (gNm 6) gsNil))) (sPut 2 (mB dAdd (xVar 3) (xVar 5)) (mB dAdd (mB dIx (xVar 2) (mB dAdd (xVar 3) (xVar 5))) (mB dMul (xVar 4) (xVar 6))))) sNil))
  (sRet (xVar 2)))))
def m_product_in : MF := fnM 7 b_product_in
noncomputable def b_content_in : MS :=
  (sSeq (sSet 1 (xC (.int 0)))
  (sSeq (sFor (iSeq (xVar 0)) (gNm 2) (sSeq (sSet 1 (mCallF 2 m_common_of (aCons (xVar 1) (aCons (mCall dAbs (aCons (xVar 2) aNil)) aNil))))
  (sIf (mTB (mB dEq (xVar 1) (xC (.int 1)))) (sRet (xC (.int 1))) sNil)))
  (sRet (xVar 1))))
noncomputable def m_content_in : MF := fnM 3 b_content_in
noncomputable def b_lesser_parts : MS :=
  (sSeq (sSet 2 (mCall dAbs (aCons (xVar 0) aNil)))
  (sSeq (sFor (iSeq (xVar 1)) (gNm 3) (sSet 2 (mCallF 2 m_common_of (aCons (xVar 2) (aCons (mCallF 1 m_content_in (aCons (xVar 3) aNil)) aNil)))))
  (sRet (mTupT (tcons (mB dDiv (xVar 0) (xVar 2)) (tcons (xCompF (iSeq (xVar 1)) (gNm 3) (xComp (iSeq (xVar 3)) (gNm 4) mYes (mB dDiv (xVar 4) (xVar 2)) [4]) [3]) tnil))))))
noncomputable def m_lesser_parts : MF := fnM 5 b_lesser_parts
def b_check_many : MS :=
  (sIf (mTNot (mTru (mCallF 1 m_is_count (aCons (xVar 0) aNil)))) sNev sNil)
def m_check_many : MF := fnM 1 b_check_many
noncomputable def b_product_by : MS :=
  (sSeq (sOwn 2 (xLst (aCons (xC (.int 1)) aNil)))
  (sSeq (sFor (iRg1 (aCons (xVar 0) aNil)) (gNm 3) (sReo 2 (mBor 2 (mCallF 2 m_product_in (aCons (xVar 2) (aCons (xLst (aCons (mB dMul (xVar 3) (xVar 1)) (aCons (xC (.int 1)) aNil))) aNil))))))
  (sRet (xVar 2))))
noncomputable def m_product_by : MF := fnM 4 b_product_by
noncomputable def b_falling_poly : MS :=
  (sSeq (sExpr (mCallF 1 m_check_many (aCons (xVar 0) aNil)))
  (sRet (mCallF 2 m_product_by (aCons (xVar 0) (aCons (mU dNeg (xC (.int 1))) aNil)))))
noncomputable def m_falling_poly : MF := fnM 1 b_falling_poly
noncomputable def b_rising_poly : MS :=
  (sSeq (sExpr (mCallF 1 m_check_many (aCons (xVar 0) aNil)))
  (sRet (mCallF 2 m_product_by (aCons (xVar 0) (aCons (xC (.int 1)) aNil)))))
noncomputable def m_rising_poly : MF := fnM 1 b_rising_poly
noncomputable def b_differences_at_0 : MS :=
  (sSeq (sParO 1 2 (aOwn (xLst aNil) (aDat (mCall dList (aCons (xVar 0) aNil)) aNil)))
  (sSeq (sWh (mTB (mB dNe (xVar 2) (xLst aNil))) (sSeq (sApp 1 (mB dIx (xVar 2) (xC (.int 0))))
  (sSet 2 (xComp (iZp (aCons (xVar 2) (aCons (mSl (xVar 2) (oSome (xC (.int 1))) oNone) aNil))) (gTp 2 (gsCons (gNm 3) (gsCons (gNm 4) gsNil))) mYes (mB dSub (xVar 4) (xVar 3)) [3, 4]))))
  (sRet (xVar 1))))
noncomputable def m_differences_at_0 : MF := fnM 5 b_differences_at_0
noncomputable def b_binomial_parts : MS :=
  (sSeq (sExpr (mCallF 1 m_check_poly (aCons (xVar 0) aNil)))
  (sRet (mCallF 1 m_cut_poly (aCons (mCallF 1 m_differences_at_0 (aCons (xComp (iRg1 (aCons (mCall dLen (aCons (xVar 0) aNil)) aNil)) (gNm 1) mYes (mCallF 2 m_worth_in (aCons (xVar 0) (aCons (xVar 1) aNil))) [1]) aNil)) aNil))))
noncomputable def m_binomial_parts : MF := fnM 2 b_binomial_parts
noncomputable def b_made_of_binomials : MS :=
  (sSeq (sPar3 1 2 3 (aDat (xLst aNil) (aDat (xC (.int 1)) (aDat (xLst (aCons (xC (.int 1)) aNil)) aNil))))
  (sSeq (sFor (iEn (aCons (xVar 0) aNil)) (gTp 2 (gsCons (gNm 4) (gsCons (gNm 5) gsNil))) (sSeq (sSet 1 (mCallF 2 m_sum_in (aCons (mCallF 2 m_scaled_in (aCons (xVar 1) (aCons (mCall dMax2 (aCons (xC (.int 1)) (aCons (xVar 4) aNil))) aNil))) (aCons (mCallF 2 m_scaled_in (aCons (xVar 3) (aCons (xVar 5) aNil))) aNil))))
  (sSeq (sSet 2 (mB dMul (xVar 2) (mCall dMax2 (aCons (xC (.int 1)) (aCons (xVar 4) aNil)))))
  (sSet 3 (mCallF 2 m_product_in (aCons (xVar 3) (aCons (xLst (aCons (mB dSub (xC (.int 0)) (xVar 4)) (aCons (xC (.int 1)) aNil))) aNil)))))))
  (sPick 2 6 (mCallF 2 m_lesser_parts (aCons (xVar 2) (aCons (xLst (aCons (xVar 1) aNil)) aNil))))))
noncomputable def m_made_of_binomials : MF := fnM 7 b_made_of_binomials
noncomputable def b_of_binomial_parts : MS :=
  (sSeq (sIf (mTOr (mTNot (mTru (mU (dIsi "list") (xVar 0)))) (mTNot (mTru (mCall dAll (aCons (xComp (iSeq (xVar 0)) (gNm 1) mYes (mCallF 1 m_is_whole (aCons (xVar 1) aNil)) [1]) aNil))))) sNev sNil)
  (sRet (mCallF 1 m_made_of_binomials (aCons (xVar 0) aNil))))
noncomputable def m_of_binomial_parts : MF := fnM 2 b_of_binomial_parts
noncomputable def b_summed_poly : MS :=
  (sRet (mCallF 1 m_made_of_binomials (aCons (mB dAdd (xLst (aCons (xC (.int 0)) aNil)) (mCallF 1 m_binomial_parts (aCons (xVar 0) aNil))) aNil)))
noncomputable def m_summed_poly : MF := fnM 1 b_summed_poly
def b__law_same (self : MF) : MS :=
  (sSeq (sIf (mTru (mU (dIsiT ["list", "tuple"]) (xVar 1))) (sSeq (sSet 2 (mAnd (mB dEq (mU (dIsi "list") (xVar 0)) (mU (dIsi "list") (xVar 1))) (mB dEq (mU (dIsi "tuple") (xVar 0)) (mU (dIsi "tuple") (xVar 1)))))
  (sRet (mAnd (xVar 2) (mAnd (mB dEq (mCall dLen (aCons (xVar 0) aNil)) (mCall dLen (aCons (xVar 1) aNil))) (mCall dAll (aCons (xComp (iZp (aCons (xVar 0) (aCons (xVar 1) aNil))) (gTp 2 (gsCons (gNm 3) (gsCons (gNm 4) gsNil))) mYes (mCallF 2 self (aCons (xVar 3) (aCons (xVar 4) aNil))) [3, 4]) aNil)))))) sNil)
  (sSeq (sIf (mTOr (mTru (mU (dIsiT ["list", "tuple"]) (xVar 0))) (mTB (mB dNe (mB (dIs id) (xVar 0) (xC .none)) (mB (dIs id) (xVar 1) (xC .none))))) (sRet (xC (.bool false))) sNil)
  (sSeq (sSet 2 (mAnd (mB dEq (mU (dIsi "bool") (xVar 0)) (mU (dIsi "bool") (xVar 1))) (mB dEq (mU (dIsi "int") (xVar 0)) (mU (dIsi "int") (xVar 1)))))
  (sRet (mAnd (xVar 2) (mAnd (mB dEq (mU (dIsi "str") (xVar 0)) (mU (dIsi "str") (xVar 1))) (mB dEq (xVar 0) (xVar 1))))))))
def m__law_same : MF := recM 5 b__law_same 6
noncomputable def b__law_marked (self : MF) : MS :=
  (sSeq (sIf (mBorT 0 (mTru (mU (dIsi "list") (xVar 0)))) (sSeq (sIf (mBorT 0 (mTAnd (mTB (mB dNe (xVar 0) (xLst aNil))) (mTB (mB dEq (mB dIx (xVar 0) (mU dNeg (xC (.int 1)))) (xC (.str "marked")))))) (sRet (xC (.bool false))) sNil)
  (sSeq (sSet 1 (mBor 0 (xComp (iSeq (xVar 0)) (gNm 2) mYes (mCallF 1 self (aCons (xVar 2) aNil)) [2])))
  (sSeq (sApp 0 (xC (.str "marked")))
  (sRet (mB dNotIn (xC (.bool false)) (xVar 1)))))) sNil)
  (sRet (mBor 0 (mOr (mU dNot (mU (dIsi "tuple") (xVar 0))) (mB dNotIn (xC (.bool false)) (xComp (iSeq (xVar 0)) (gNm 2) mYes (mCallF 1 self (aCons (xVar 2) aNil)) [2]))))))
noncomputable def m__law_marked : MF := recM 3 b__law_marked 6
noncomputable def mkt1__law_marked : MT := (mBorT 0 (mTru (mU (dIsi "list") (xVar 0))))
noncomputable def mkt2__law_marked : MT := (mBorT 0 (mTAnd (mTB (mB dNe (xVar 0) (xLst aNil))) (mTB (mB dEq (mB dIx (xVar 0) (mU dNeg (xC (.int 1)))) (xC (.str "marked"))))))
noncomputable def mke__law_marked : ME := (mCallF 1 m__law_marked (aCons (xVar 2) aNil))
noncomputable def mks5__law_marked : MS := (sRet (mB dNotIn (xC (.bool false)) (xVar 1)))
def mo__law_marked : List D → Nat → Nat → Cs → Option (D × Cs) := moMk "marked"
def b__law_is_whole : MS :=
  (sRet (mAnd (mU (dIsi "int") (xVar 0)) (mU dNot (mU (dIsi "bool") (xVar 0)))))
def m__law_is_whole : MF := fnM 1 b__law_is_whole
noncomputable def b__law_divisor : MS :=
  (sSeq (sParO 0 1 (aDat (mCall dAbs (aCons (xVar 0) aNil)) (aDat (mCall dAbs (aCons (xVar 1) aNil)) aNil)))
  (sSeq (sWh (mTB (mB dGt (xVar 1) (xC (.int 0)))) (sParO 0 1 (aDat (xVar 1) (aDat (mB dMod (mCall dInt (aCons (xVar 0) aNil)) (xVar 1)) aNil))))
  (sRet (xVar 0))))
noncomputable def m__law_divisor : MF := fnM 2 b__law_divisor
noncomputable def b__law_cut : MS :=
  (sSeq (sSet 1 (mCall dLen (aCons (xVar 0) aNil)))
  (sSeq (sWh (mTAnd (mTB (mB dGt (xVar 1) (xC (.int 0)))) (mTB (mB dEq (mB dIx (xVar 0) (mB dSub (xVar 1) (xC (.int 1)))) (xC (.int 0))))) (sSet 1 (mB dSub (xVar 1) (xC (.int 1)))))
  (sRet (mCall dList (aCons (mSl (xVar 0) oNone (oSome (xVar 1))) aNil)))))
noncomputable def m__law_cut : MF := fnM 2 b__law_cut
def b__law_is_poly : MS :=
  (sSeq (sIf (mTOr (mTNot (mTru (mU (dIsi "list") (xVar 0)))) (mTB (mB dNe (xComp (iSeq (xVar 0)) (gNm 1) (mTNot (mTru (mCallF 1 m__law_is_whole (aCons (xVar 1) aNil)))) (xVar 1) [1]) (xLst aNil)))) (sRet (xC (.bool false))) sNil)
  (sRet (mOr (mB dEq (xVar 0) (xLst aNil)) (mB dNe (mB dIx (xVar 0) (mU dNeg (xC (.int 1)))) (xC (.int 0))))))
def m__law_is_poly : MF := fnM 2 b__law_is_poly
def b__law_worth : MS :=
  (sSeq (sSet 2 (xC (.int 0)))
  (sSeq (sFor (iSeq (mU dRev (xVar 0))) (gNm 3) (sSet 2 (mB dAdd (mB dMul (xVar 2) (xVar 1)) (xVar 3))))
  (sRet (xVar 2))))
def m__law_worth : MF := fnM 4 b__law_worth
noncomputable def b__law_drawn : MS :=
  (sRet (mCallF 1 m__law_cut (aCons (xComp (iRg1 (aCons (mCallF 2 m__law_random (aCons (xVar 0) (aCons (mB dAdd (xVar 1) (xC (.int 2))) aNil))) aNil)) (gNm 3) mYes (mB dSub (mCallF 2 m__law_random (aCons (xVar 0) (aCons (mB dAdd (mB dMul (xC (.int 2)) (xVar 2)) (xC (.int 1))) aNil))) (xVar 2)) [3]) aNil)))
noncomputable def m__law_drawn : MF := fnM 4 b__law_drawn
noncomputable def b__law_content : MS :=
  (sSeq (sSet 1 (xC (.int 0)))
  (sSeq (sFor (iSeq (xVar 0)) (gNm 2) (sSet 1 (mCallF 2 m__law_divisor (aCons (xVar 1) (aCons (xVar 2) aNil)))))
  (sRet (xVar 1))))
noncomputable def m__law_content : MF := fnM 3 b__law_content
def b__law_binomial : MS :=
  (sSeq (sSet 2 (xC (.int 1)))
  (sSeq (sFor (iRg1 (aCons (xVar 1) aNil)) (gNm 3) (sSet 2 (mB dMul (xVar 2) (mB dSub (xVar 0) (xVar 3)))))
  (sSeq (sSet 4 (xC (.int 1)))
  (sSeq (sFor (iRg1 (aCons (xVar 1) aNil)) (gNm 3) (sSet 4 (mB dMul (xVar 4) (mB dAdd (xVar 3) (xC (.int 1))))))
  (sRet (mB dDiv (xVar 2) (xVar 4)))))))
def m__law_binomial : MF := fnM 5 b__law_binomial
noncomputable def b__law_products_right : MS :=
  (sSeq (sForT 1 2 (tcons (mTupT (tcons (mCallF 1 m_falling_poly (aCons (xVar 0) aNil)) (tcons (mB dSub (xC (.int 0)) (xC (.int 1))) tnil))) (tcons (mTupT (tcons (mCallK 0 1 1 [0] m_falling_poly aNil (aCons (xVar 0) aNil)) (tcons (mB dSub (xC (.int 0)) (xC (.int 1))) tnil))) (tcons (mTupT (tcons (mCallF 1 m_rising_poly (aCons (xVar 0) aNil)) (tcons (xC (.int 1)) tnil))) (tcons (mTupT (tcons (mCallK 0 1 1 [0] m_rising_poly aNil (aCons (xVar 0) aNil)) (tcons (xC (.int 1)) tnil))) tnil)))) (sSeq (sIf (mBorT 1 (mTOr (mTNot (mTru (mCallF 1 m__law_is_poly (aCons (xVar 1) aNil)))) (mTB (mB dNe (mCall dLen (aCons (xVar 1) aNil)) (mB dAdd (xVar 0) (xC (.int 1))))))) (sRet (xC (.bool false))) sNil)
  (sSeq (sFor (iRg2 (aCons (mB dSub (mB dSub (xC (.int 0)) (xVar 0)) (xC (.int 2))) (aCons (mB dAdd (xVar 0) (xC (.int 3))) aNil))) (gNm 3) (sSeq (sSet 4 (xC (.int 1)))
  (sSeq (sFor (iRg1 (aCons (xVar 0) aNil)) (gNm 5) (sSet 4 (mB dMul (xVar 4) (mB dAdd (xVar 3) (mB dMul (xVar 2) (xVar 5))))))
  (sIf (mBorT 1 (mTB (mB dNe (mCallF 2 m__law_worth (aCons (xVar 1) (aCons (xVar 3) aNil))) (xVar 4)))) (sRet (xC (.bool false))) sNil))))
  (sIf (mTNot (mTru (mCallF 1 m__law_marked (aCons (xVar 1) aNil)))) (sRet (xC (.bool false))) sNil))))
  (sRet (xC (.bool true))))
noncomputable def m__law_products_right : MF := fnM 6 b__law_products_right
noncomputable def b__law_right : MS :=
  (sSeq (sParO 6 7 (aDat (mCall dReprB (aCons (xVar 1) aNil)) (aDat (mCall dReprB (aCons (xVar 2) aNil)) aNil)))
  (sSeq (sOwn 3 (mCallF 1 m_binomial_parts (aCons (xVar 1) aNil)))
  (sSeq (sIf (mBorT 3 (mTOr (mTNot (mTru (mCallF 2 m__law_same (aCons (mCallK 0 1 1 [0] m_binomial_parts aNil (aCons (xVar 1) aNil)) (aCons (xVar 3) aNil))))) (mTOr (mTNot (mTru (mCallF 1 m__law_is_poly (aCons (xVar 3) aNil)))) (mTB (mB dNe (mCall dLen (aCons (xVar 3) aNil)) (mCall dLen (aCons (xVar 1) aNil))))))) (sRet (xC (.bool false))) sNil)
  (sSeq (sFor (iRg1 (aCons (mB dAdd (mCall dLen (aCons (xVar 1) aNil)) (xC (.int 3))) aNil)) (gNm 4) (sIf (mBorT 3 (mTB (mB dNe (mCall dSum (aCons (xComp (iEn (aCons (xVar 3) aNil)) (gTp 2 (gsCons (gNm 12) (gsCons (gNm 13) gsNil))) mYes (mB dMul (xVar 13) (mCallF 2 m__law_binomial (aCons (xVar 4) (aCons (xVar 12) aNil)))) [12, 13]) aNil)) (mCallF 2 m__law_worth (aCons (xVar 1) (aCons (xVar 4) aNil)))))) (sRet (xC (.bool false))) sNil))
  (sSeq (sUnp 8 9 (mCallF 1 m_of_binomial_parts (aCons (xVar 2) aNil)))
  (sSeq (sIf (mBorT 8 (mTOr (mTNot (mTru (mCallF 2 m__law_same (aCons (mCall dList (aCons (mCallK 0 1 1 [0] m_of_binomial_parts aNil (aCons (xVar 2) aNil)) aNil)) (aCons (xLst (aCons (xVar 8) (aCons (xVar 9) aNil))) aNil))))) (mTOr (mTNot (mTru (mCallF 1 m__law_is_poly (aCons (xVar 8) aNil)))) (mTOr (mTB (mB dLt (xVar 9) (xC (.int 1)))) (mTB (mB dNotIn (mCallF 2 m__law_divisor (aCons (xVar 9) (aCons (mCallF 1 m__law_content (aCons (xVar 8) aNil)) aNil))) (xLst (aCons (xC (.int 0)) (aCons (xC (.int 1)) aNil))))))))) (sRet (xC (.bool false))) sNil)
  (sSeq (sFor (iRg1 (aCons (mB dAdd (mCall dLen (aCons (xVar 2) aNil)) (xC (.int 3))) aNil)) (gNm 4) (sIf (mBorT 8 (mTB (mB dNe (mCallF 2 m__law_worth (aCons (xVar 8) (aCons (xVar 4) aNil))) (mB dMul (xVar 9) (mCall dSum (aCons (xComp (iEn (aCons (xVar 2) aNil)) (gTp 2 (gsCons (gNm 12) (gsCons (gNm 13) gsNil))) mYes (mB dMul (xVar 13) (mCallF 2 m__law_binomial (aCons (xVar 4) (aCons (xVar 12) aNil)))) [12, 13]) aNil)))))) (sRet (xC (.bool false))) sNil))
  (sSeq (sIf (mBorT 3 (mTNot (mTru (mCallF 2 m__law_same (aCons (mCall dList (aCons (mCallF 1 m_of_binomial_parts (aCons (xVar 3) aNil)) aNil)) (aCons (xLst (aCons (xVar 1) (aCons (xC (.int 1)) aNil))) aNil)))))) (sRet (xC (.bool false))) sNil)
  (sSeq (sUnp 10 11 (mCallF 1 m_summed_poly (aCons (xVar 1) aNil)))
  (sSeq (sIf (mBorT 10 (mTOr (mTNot (mTru (mCallF 2 m__law_same (aCons (mCall dList (aCons (mCallK 0 1 1 [0] m_summed_poly aNil (aCons (xVar 1) aNil)) aNil)) (aCons (xLst (aCons (xVar 10) (aCons (xVar 11) aNil))) aNil))))) (mTOr (mTNot (mTru (mCallF 1 m__law_is_poly (aCons (xVar 10) aNil)))) (mTOr (mTB (mB dLt (xVar 11) (xC (.int 1)))) (mTB (mB dNotIn (mCallF 2 m__law_divisor (aCons (xVar 11) (aCons (mCallF 1 m__law_content (aCons (xVar 10) aNil)) aNil))) (xLst (aCons (xC (.int 0)) (aCons (xC (.int 1)) aNil))))))))) (sRet (xC (.bool false))) sNil)
  (sSeq (sFor (iRg1 (aCons (mB dAdd (mCall dLen (aCons (xVar 1) aNil)) (xC (.int 4))) aNil)) (gNm 4) (sIf (mBorT 10 (mTB (mB dNe (mCallF 2 m__law_worth (aCons (xVar 10) (aCons (xVar 4) aNil))) (mB dMul (xVar 11) (mCall dSum (aCons (xComp (iRg1 (aCons (xVar 4) aNil)) (gNm 12) mYes (mCallF 2 m__law_worth (aCons (xVar 1) (aCons (xVar 12) aNil))) [12]) aNil)))))) (sRet (xC (.bool false))) sNil))
  (sSeq (sSet 5 (mBor 3 (mBor 8 (mBor 10 (mCall dReprB (aCons (xLst (aCons (xVar 3) (aCons (xTup (aCons (xVar 8) (aCons (xVar 9) aNil))) (aCons (xTup (aCons (xVar 10) (aCons (xVar 11) aNil))) aNil)))) aNil))))))
  (sSeq (sIf (mTOr (mTNot (mTru (mMark mo__law_marked (aCons (xVar 3) (aCons (xVar 8) (aCons (xVar 10) aNil)))))) (mTB (mB dNe (mCall dReprB (aCons (xLst (aCons (mCallF 1 m_binomial_parts (aCons (xVar 1) aNil)) (aCons (mCallF 1 m_of_binomial_parts (aCons (xVar 2) aNil)) (aCons (mCallF 1 m_summed_poly (aCons (xVar 1) aNil)) aNil)))) aNil)) (xVar 5)))) (sRet (xC (.bool false))) sNil)
  (sRet (mAnd (mB dEq (mCall dReprB (aCons (xVar 1) aNil)) (xVar 6)) (mB dEq (mCall dReprB (aCons (xVar 2) aNil)) (xVar 7)))))))))))))))))
noncomputable def m__law_right : MF := fnM 14 b__law_right
noncomputable def b_law : MS :=
  (sSeq (sFor (iRg1 (aCons (xC (.int 3)) aNil)) (gNm 1) (sSeq (sOwn 3 (mCallF 2 m__law_generator (aCons (xVar 0) (aCons (xVar 1) aNil))))
  (sSeq (sIf (mTOr (mTNot (mTru (mCallF 1 m__law_products_right (aCons (mCallF 2 m__law_random (aCons (xVar 3) (aCons (xC (.int 13)) aNil))) aNil)))) (mTNot (mTru (mCallF 1 m__law_products_right (aCons (mB dAdd (xC (.int 13)) (mCallF 2 m__law_random (aCons (xVar 3) (aCons (xC (.int 48)) aNil)))) aNil))))) (sRet (xC (.bool false))) sNil)
  (sSeq (sSet 4 (mB dAdd (xComp (iRg1 (aCons (mB dAdd (xC (.int 8)) (mCallF 2 m__law_random (aCons (xVar 3) (aCons (xC (.int 13)) aNil)))) aNil)) (gNm 7) mYes (mB dSub (mCallF 2 m__law_random (aCons (xVar 3) (aCons (xC (.int 19)) aNil))) (xC (.int 9))) [7]) (xLst (aCons (mB dAdd (xC (.int 1)) (mCallF 2 m__law_random (aCons (xVar 3) (aCons (xC (.int 9)) aNil)))) aNil))))
  (sSeq (sIf (mTNot (mTru (mCallF 3 m__law_right (aCons (xVar 3) (aCons (xVar 4) (aCons (xComp (iRg1 (aCons (mB dAdd (xC (.int 13)) (mCallF 2 m__law_random (aCons (xVar 3) (aCons (xC (.int 13)) aNil)))) aNil)) (gNm 7) mYes (mB dSub (mCallF 2 m__law_random (aCons (xVar 3) (aCons (xC (.int 19)) aNil))) (xC (.int 9))) [7]) aNil)))))) (sRet (xC (.bool false))) sNil)
  (sFor (iSeq (xLst (aCons (mCallF 3 m__law_drawn (aCons (xVar 3) (aCons (xC (.int 7)) (aCons (xC (.int 9)) aNil)))) (aCons (mCallF 3 m__law_drawn (aCons (xVar 3) (aCons (xC (.int 4)) (aCons (mB dPow (xC (.int 10)) (xC (.int 10))) aNil)))) (aCons (xLst aNil) aNil))))) (gNm 5) (sSeq (sSet 6 (mB dAdd (xComp (iRg1 (aCons (mCallF 2 m__law_random (aCons (xVar 3) (aCons (xC (.int 7)) aNil))) aNil)) (gNm 7) mYes (mB dSub (mCallF 2 m__law_random (aCons (xVar 3) (aCons (xC (.int 19)) aNil))) (xC (.int 9))) [7]) (mB dMul (xLst (aCons (xC (.int 0)) aNil)) (mCallF 2 m__law_random (aCons (xVar 3) (aCons (xC (.int 2)) aNil))))))
  (sIf (mTNot (mTru (mCallF 3 m__law_right (aCons (xVar 3) (aCons (xVar 5) (aCons (xVar 6) aNil)))))) (sRet (xC (.bool false))) sNil))))))))
  (sSeq (sSet 2 (xLst (aCons (mCallF 1 m_falling_poly (aCons (xC (.int 3)) aNil)) (aCons (mCallF 1 m_rising_poly (aCons (xC (.int 2)) aNil)) (aCons (mCallF 1 m_falling_poly (aCons (xC (.int 0)) aNil)) (aCons (mCallF 1 m_binomial_parts (aCons (xLst (aCons (xC (.int 0)) (aCons (xC (.int 0)) (aCons (xC (.int 1)) aNil)))) aNil)) (aCons (mCallF 1 m_of_binomial_parts (aCons (xLst (aCons (xC (.int 0)) (aCons (xC (.int 1)) (aCons (xC (.int 2)) aNil)))) aNil)) (aCons (mCallF 1 m_summed_poly (aCons (xLst (aCons (xC (.int 0)) (aCons (xC (.int 1)) aNil))) aNil)) (aCons (mCallF 1 m_of_binomial_parts (aCons (xLst aNil) aNil)) aNil)))))))))
  (sRet (mCallF 2 m__law_same (aCons (xVar 2) (aCons (xLst (aCons (xLst (aCons (xC (.int 0)) (aCons (xC (.int 2)) (aCons (mB dSub (xC (.int 0)) (xC (.int 3))) (aCons (xC (.int 1)) aNil))))) (aCons (xLst (aCons (xC (.int 0)) (aCons (xC (.int 1)) (aCons (xC (.int 1)) aNil)))) (aCons (xLst (aCons (xC (.int 1)) aNil)) (aCons (xLst (aCons (xC (.int 0)) (aCons (xC (.int 1)) (aCons (xC (.int 2)) aNil)))) (aCons (xTup (aCons (xLst (aCons (xC (.int 0)) (aCons (xC (.int 0)) (aCons (xC (.int 1)) aNil)))) (aCons (xC (.int 1)) aNil))) (aCons (xTup (aCons (xLst (aCons (xC (.int 0)) (aCons (mB dSub (xC (.int 0)) (xC (.int 1))) (aCons (xC (.int 1)) aNil)))) (aCons (xC (.int 2)) aNil))) (aCons (xTup (aCons (xLst aNil) (aCons (xC (.int 1)) aNil))) aNil)))))))) aNil))))))
noncomputable def m_law : MF := fnM 8 b_law
end My
/-! PQ1: polynomials as lists of whole numbers; binomials. No program in sight. -/
namespace My
def hw (x : Int) : List Int → Int
  | [] => 0
  | c :: r => hw x r * x + c
def NF (l : List Int) : Prop := l.getLast? ≠ some 0
theorem hw_app {x : Int} : ∀ {l z : List Int}, (∀ c ∈ z, c = 0) → hw x (l ++ z) = hw x l
  | [], z, h => by
    rw [List.nil_append]
    induction z with
    | nil => rfl
    | cons c r ih =>
      show hw x r * x + c = 0
      rw [ih fun d hd => h d (List.mem_cons_of_mem _ hd), h c (List.mem_cons_self ..)]
      simp [hw]
  | c :: l, z, h => by
    show hw x (l ++ z) * x + c = hw x l * x + c
    rw [hw_app h]
def cutI : List Int → List Int
  | [] => []
  | c :: r => match cutI r with
    | [] => if c = 0 then [] else [c]
    | d :: s => c :: d :: s
theorem cut_split : ∀ l : List Int, ∃ z, l = cutI l ++ z ∧ ∀ c ∈ z, c = 0
  | [] => ⟨[], rfl, nofun⟩
  | c :: r => by
    obtain ⟨z, h1, h2⟩ := cut_split r
    unfold cutI
    cases q : cutI r with
    | nil =>
      rw [q] at h1
      have h1 : r = z := by simpa using h1
      by_cases hc : c = 0
      · refine ⟨c :: r, by simp [hc], fun d hd => ?_⟩
        rcases List.mem_cons.mp hd with rfl | hd
        · exact hc
        · exact h2 d (by rw [← h1]; exact hd)
      · exact ⟨r, by simp [hc], by rw [h1]; exact h2⟩
    | cons d s =>
      rw [q] at h1
      exact ⟨z, by show c :: r = c :: (d :: s ++ z); rw [← h1], h2⟩
theorem cut_hw {x : Int} (l : List Int) : hw x (cutI l) = hw x l := by
  obtain ⟨z, h1, h2⟩ := cut_split l
  have := hw_app (x := x) (l := cutI l) h2
  rw [← h1] at this
  exact this.symm
theorem cut_nf : ∀ l : List Int, NF (cutI l)
  | [] => by unfold NF cutI; simp
  | c :: r => by
    have ih := cut_nf r
    unfold cutI
    cases q : cutI r with
    | nil =>
      by_cases hc : c = 0
      · simp [hc, NF]
      · simp [hc, NF]
    | cons d s =>
      rw [q] at ih
      unfold NF at ih ⊢
      simpa using ih
theorem cut_uniq : ∀ {t z : List Int}, NF t → (∀ c ∈ z, c = 0) → cutI (t ++ z) = t
  | [], z, _, h => by
    rw [List.nil_append]
    induction z with
    | nil => rfl
    | cons c r ih =>
      unfold cutI
      rw [ih fun d hd => h d (List.mem_cons_of_mem _ hd)]
      simp [h c (List.mem_cons_self ..)]
  | [c], z, n, h => by
    show cutI (c :: z) = [c]
    unfold cutI
    have e : cutI z = [] := cut_uniq (t := []) (by unfold NF; simp) h
    rw [e]
    have : c ≠ 0 := fun z => n (by rw [z]; rfl)
    simp [this]
  | c :: d :: t, z, n, h => by
    show cutI (c :: (d :: t ++ z)) = _
    unfold cutI
    rw [cut_uniq (t := d :: t) (by unfold NF at n ⊢; simpa using n) h]
theorem cut_id {t : List Int} (n : NF t) : cutI t = t := by
  have := cut_uniq (z := []) n nofun
  simpa using this
theorem cut_mem {l : List Int} {c : Int} (h : c ∈ cutI l) : c ∈ l := by
  obtain ⟨z, h1, h2⟩ := cut_split l
  rw [h1]
  exact List.mem_append_left _ h
theorem cut_len (l : List Int) : (cutI l).length ≤ l.length := by
  obtain ⟨z, h1, h2⟩ := cut_split l
  have := congrArg List.length h1
  rw [List.length_append] at this
  omega
/-! sums, multiples -/
def zs : List Int → List Int → List Int
  | [], m => m
  | l, [] => l
  | a :: l, b :: m => (a + b) :: zs l m
theorem zs_nil (l : List Int) : zs l [] = l := by cases l <;> rfl
theorem zs_hw {x : Int} : ∀ l m : List Int, hw x (zs l m) = hw x l + hw x m
  | [], m => by simp [zs, hw]
  | a :: l, [] => by simp [zs, hw]
  | a :: l, b :: m => by
    have := zs_hw (x := x) l m
    show hw x (zs l m) * x + (a + b) = hw x l * x + a + (hw x m * x + b)
    rw [this]
    grind
theorem zs_comm : ∀ l m : List Int, zs l m = zs m l
  | [], [] => rfl
  | [], b :: m => rfl
  | a :: l, [] => rfl
  | a :: l, b :: m => by
    show (a + b) :: zs l m = (b + a) :: zs m l
    rw [zs_comm l m, Int.add_comm]
theorem zs_len : ∀ l m : List Int, (zs l m).length = max l.length m.length
  | [], m => by simp [zs]
  | a :: l, [] => by simp [zs]
  | a :: l, b :: m => by
    show (zs l m).length + 1 = max (l.length + 1) (m.length + 1)
    rw [zs_len l m]
    omega
theorem zs_mem {P Q : Int → Prop} (hp : ∀ a b, P a → P b → Q (a + b)) (hq : ∀ a, P a → Q a) : ∀ {l m : List Int}, (∀ c ∈ l, P c) → (∀ c ∈ m, P c) → ∀ c ∈ zs l m, Q c
  | [], m, _, h2, c, hc => hq c (h2 c hc)
  | a :: l, [], h1, _, c, hc => hq c (h1 c hc)
  | a :: l, b :: m, h1, h2, c, hc => by
    rcases List.mem_cons.mp (show c ∈ (a + b) :: zs l m from hc) with rfl | hc
    · exact hp a b (h1 a (List.mem_cons_self ..)) (h2 b (List.mem_cons_self ..))
    · exact zs_mem hp hq (fun d hd => h1 d (List.mem_cons_of_mem _ hd)) (fun d hd => h2 d (List.mem_cons_of_mem _ hd)) c hc
theorem map_hw {x n : Int} : ∀ l : List Int, hw x (l.map (n * ·)) = n * hw x l
  | [] => by simp [hw]
  | c :: r => by
    show hw x (r.map (n * ·)) * x + n * c = n * (hw x r * x + c)
    rw [map_hw r]
    grind
def scl (n : Int) (l : List Int) : List Int := if n ≠ 0 then l.map (n * ·) else []
theorem scl_hw {x n : Int} (l : List Int) : hw x (scl n l) = n * hw x l := by
  unfold scl
  split
  · exact map_hw l
  · rename_i h
    have : n = 0 := by simpa using h
    simp [hw, this]
/-! times n + c -/
def mulr (c : Int) : Int → List Int → List Int
  | p, [] => [p]
  | p, a :: r => (a * c + p) :: mulr c a r
theorem mulr_hw {x c : Int} : ∀ (l : List Int) (p : Int), hw x (mulr c p l) = hw x l * (x + c) + p
  | [], p => by simp [mulr, hw]
  | a :: r, p => by
    show hw x (mulr c a r) * x + (a * c + p) = (hw x r * x + a) * (x + c) + p
    rw [mulr_hw r a]
    grind
theorem mulr_len {c : Int} : ∀ (l : List Int) (p : Int), (mulr c p l).length = l.length + 1
  | [], _ => rfl
  | a :: r, p => by
    show (mulr c a r).length + 1 = _
    rw [mulr_len r a]
    rfl
theorem mulr_last {c : Int} : ∀ (l : List Int) (p : Int), (mulr c p l).getLast? = some ((p :: l).getLast (by simp))
  | [], _ => rfl
  | a :: r, p => by
    show ((a * c + p) :: mulr c a r).getLast? = _
    have h := mulr_last r a (c := c)
    rw [List.getLast?_cons, h]
    simp
theorem mulr_get {c : Int} : ∀ (l : List Int) (p : Int) (k : Nat), k ≤ l.length → (mulr c p l)[k]? = some (l.getD k 0 * c + (if k = 0 then p else l.getD (k - 1) 0))
  | [], p, k, h => by
    have : k = 0 := by simpa using h
    subst this
    simp [mulr]
  | a :: r, p, 0, _ => by simp [mulr]
  | a :: r, p, k + 1, h => by
    show (mulr c a r)[k]? = _
    rw [mulr_get r a k (by simpa using h)]
    cases k with
    | zero => simp
    | succ k => simp
def ff (x : Int) (s : Int) : Nat → Int
  | 0 => 1
  | n + 1 => ff x s n * (x + n * s)
/-! binomials -/
def bn : Nat → Nat → Int
  | _, 0 => 1
  | 0, _ + 1 => 0
  | n + 1, k + 1 => bn n k + bn n (k + 1)
theorem bn_zero (n : Nat) : bn n 0 = 1 := by cases n <;> rfl
theorem bn_step : ∀ n k : Nat, ((k : Int) + 1) * bn n (k + 1) = ((n : Int) - k) * bn n k
  | 0, 0 => by simp [bn]
  | 0, k + 1 => by simp [bn]
  | n + 1, 0 => by
    have h := bn_step n 0
    simp only [bn, bn_zero] at h ⊢
    push_cast at h ⊢
    grind
  | n + 1, k + 1 => by
    have h1 := bn_step n k
    have h2 := bn_step n (k + 1)
    show ((k + 1 : Nat) + 1 : Int) * (bn n (k + 1) + bn n (k + 1 + 1)) = ((n + 1 : Nat) - (k + 1 : Nat) : Int) * (bn n k + bn n (k + 1))
    push_cast at h1 h2 ⊢
    grind
theorem bn_ff : ∀ n k : Nat, ff n (-1) k = ff 1 1 k * bn n k
  | n, 0 => by simp [ff, bn_zero]
  | n, k + 1 => by
    have h1 := bn_ff n k
    have h2 := bn_step n k
    show ff n (-1) k * (n + k * (-1)) = ff 1 1 k * (1 + k * 1) * bn n (k + 1)
    rw [h1]
    grind
theorem fac_pos : ∀ k : Nat, 0 < ff 1 1 k
  | 0 => by simp [ff]
  | k + 1 => by
    show 0 < ff 1 1 k * (1 + k * 1)
    exact Int.mul_pos (fac_pos k) (by omega)
/-! sums of parts of binomials -/
def bs (n : Nat) : Nat → List Int → Int
  | _, [] => 0
  | k, c :: r => c * bn n k + bs n (k + 1) r
theorem bs_step {n : Nat} : ∀ (r : List Int) (k : Nat), bs (n + 1) (k + 1) r = bs n k r + bs n (k + 1) r
  | [], _ => rfl
  | c :: r, k => by
    show c * (bn n k + bn n (k + 1)) + bs (n + 1) (k + 1 + 1) r = c * bn n k + bs n (k + 1) r + (c * bn n (k + 1) + bs n (k + 1 + 1) r)
    rw [bs_step r (k + 1)]
    grind
theorem bs_dif {n : Nat} : ∀ (c : List Int), bs (n + 1) 0 c = bs n 0 c + bs n 0 c.tail
  | [] => rfl
  | c :: r => by
    show c * bn (n + 1) 0 + bs (n + 1) 1 r = c * bn n 0 + bs n 1 r + bs n 0 r
    rw [bn_zero, bn_zero, bs_step r 0]
    grind
theorem bs_high : ∀ (r : List Int) (k : Nat), bs 0 (k + 1) r = 0
  | [], _ => rfl
  | c :: r, k => by
    show c * 0 + bs 0 (k + 1 + 1) r = 0
    rw [bs_high r (k + 1)]
    simp
theorem bs_head (c : Int) (r : List Int) : bs 0 0 (c :: r) = c := by
  show c * 1 + bs 0 1 r = c
  rw [bs_high]
  grind
theorem bs_app {n : Nat} {z : List Int} (h : ∀ c ∈ z, c = 0) : ∀ (l : List Int) (k : Nat), bs n k (l ++ z) = bs n k l
  | [], k => by
    rw [List.nil_append]
    induction z generalizing k with
    | nil => rfl
    | cons c r ih =>
      show c * bn n k + bs n (k + 1) r = 0
      have := ih (fun d hd => h d (List.mem_cons_of_mem _ hd)) (k + 1)
      rw [this, h c (List.mem_cons_self ..)]
      simp [bs]
  | c :: l, k => by
    show c * bn n k + bs n (k + 1) (l ++ z) = c * bn n k + bs n (k + 1) l
    rw [bs_app h l (k + 1)]
def difR : List Int → List Int
  | a :: b :: r => (b - a) :: difR (b :: r)
  | _ => []
theorem difR_len : ∀ l : List Int, (difR l).length = l.length - 1
  | [] => rfl
  | [_] => rfl
  | a :: b :: r => by
    show (difR (b :: r)).length + 1 = _
    rw [difR_len (b :: r)]
    simp
def difN : Nat → List Int → List Int
  | 0, _ => []
  | n + 1, l => match l with
    | [] => []
    | a :: r => a :: difN n (difR (a :: r))
def vals (c : List Int) (lo n : Nat) : List Int := (List.range' lo n).map fun i => bs i 0 c
theorem vals_dif (c : List Int) : ∀ (n lo : Nat), difR (vals c lo (n + 1)) = vals c.tail lo n
  | 0, lo => rfl
  | n + 1, lo => by
    have ih := vals_dif c n (lo + 1)
    show difR (bs lo 0 c :: vals c (lo + 1) (n + 1)) = bs lo 0 c.tail :: vals c.tail (lo + 1) n
    have e : vals c (lo + 1) (n + 1) = bs (lo + 1) 0 c :: vals c (lo + 1 + 1) n := rfl
    rw [e] at ih ⊢
    show (bs (lo + 1) 0 c - bs lo 0 c) :: difR (bs (lo + 1) 0 c :: vals c (lo + 1 + 1) n) = _
    rw [ih, bs_dif c]
    congr 1
    omega
theorem vals_difN : ∀ (c : List Int), difN c.length (vals c 0 c.length) = c
  | [] => rfl
  | a :: c => by
    show difN (c.length + 1) (bs 0 0 (a :: c) :: vals (a :: c) 1 c.length) = _
    show bs 0 0 (a :: c) :: difN c.length (difR (vals (a :: c) 0 (c.length + 1))) = _
    rw [vals_dif (a :: c) c.length 0, bs_head]
    exact congrArg _ (vals_difN c)
def tb : Nat → Int → List Int → List Int
  | k, p, [] => [(k : Int) * p]
  | k, p, d :: r => ((k : Int) * (p + d)) :: tb (k + 1) d r
theorem tb_len : ∀ (d : List Int) (k : Nat) (p : Int), (tb k p d).length = d.length + 1
  | [], _, _ => rfl
  | a :: r, k, p => by
    show (tb (k + 1) a r).length + 1 = _
    rw [tb_len r]
    rfl
theorem tb_bs {n : Nat} : ∀ (d : List Int) (k : Nat) (p : Int), bs n k (tb k p d) = n * bs n k d + k * p * bn n k
  | [], k, p => by simp [tb, bs]
  | d :: r, k, p => by
    show (k * (p + d)) * bn n k + bs n (k + 1) (tb (k + 1) d r) = n * (d * bn n k + bs n (k + 1) r) + k * p * bn n k
    rw [tb_bs r (k + 1) d]
    have h := bn_step n k
    push_cast
    grind
theorem tb_last : ∀ (d : List Int) (k : Nat) (p : Int), (tb k p d).getLast? = some (((k + d.length : Nat) : Int) * (p :: d).getLast (by simp))
  | [], k, p => by simp [tb]
  | a :: r, k, p => by
    show (((k : Int) * (p + a)) :: tb (k + 1) a r).getLast? = _
    rw [List.getLast?_cons, tb_last r (k + 1) a]
    simp
    congr 1
    omega
def toBin : List Int → List Int
  | [] => []
  | a :: q => match tb 0 0 (toBin q) with
    | [] => []
    | e :: r => (e + a) :: r
theorem toBin_len : ∀ l : List Int, (toBin l).length = l.length
  | [] => rfl
  | a :: q => by
    have ih := toBin_len q
    have h := tb_len (toBin q) 0 0
    unfold toBin
    cases e : tb 0 0 (toBin q) with
    | nil => rw [e] at h; simp at h
    | cons x r =>
      rw [e, ih] at h
      simpa using h
theorem toBin_bs {n : Nat} : ∀ l : List Int, bs n 0 (toBin l) = hw n l
  | [] => rfl
  | a :: q => by
    have ih := toBin_bs (n := n) q
    have h := tb_bs (n := n) (toBin q) 0 0
    have hl := tb_len (toBin q) 0 0
    unfold toBin
    cases e : tb 0 0 (toBin q) with
    | nil => rw [e] at hl; simp at hl
    | cons x r =>
      rw [e, ih] at h
      have h : x * bn n 0 + bs n 1 r = n * hw n q + (0 : Nat) * 0 * bn n 0 := h
      show (x + a) * bn n 0 + bs n 1 r = hw n q * n + a
      rw [bn_zero] at h ⊢
      grind
theorem toBin_nf : ∀ l : List Int, NF l → NF (toBin l)
  | [], h => h
  | [a], h => by
    show NF [((0 : Nat) : Int) * 0 + a]
    have e : ((0 : Nat) : Int) * 0 + a = a := by omega
    rw [e]
    exact h
  | a :: b :: q, h => by
    have ih := toBin_nf (b :: q) (by unfold NF at h ⊢; simpa using h)
    have hl := toBin_len (b :: q)
    have h2 := tb_last (toBin (b :: q)) 0 0
    have h3 := tb_len (toBin (b :: q)) 0 0
    unfold toBin
    cases e : tb 0 0 (toBin (b :: q)) with
    | nil => rw [e] at h3; simp at h3
    | cons x r =>
      rw [e] at h2 h3
      cases q2 : toBin (b :: q) with
      | nil => rw [q2] at hl; simp at hl
      | cons y s =>
        rw [q2] at h2 ih h3
        cases r with
        | nil => simp at h3
        | cons z r =>
          unfold NF at ih ⊢
          intro hh
          apply ih
          have e1 : ((x + a) :: z :: r).getLast? = (x :: z :: r).getLast? := by simp
          rw [e1, h2] at hh
          have h4 : ((0 + (y :: s).length : Nat) : Int) * (0 :: y :: s).getLast (by simp) = 0 := Option.some.inj hh
          have h5 : (0 :: y :: s).getLast (by simp) = 0 := by
            rcases Int.mul_eq_zero.mp h4 with w | w
            · simp at w; omega
            · exact w
          rw [List.getLast?_eq_getLast (by simp)]
          simp at h5 ⊢
          exact h5
/-- sums ahead -/
theorem bn_sum (k : Nat) : ∀ n : Nat, bn (n + 1) (k + 1) = bn n (k + 1) + bn n k := fun n => by
  show bn n k + bn n (k + 1) = _
  omega
def sumTo (f : Nat → Int) : Nat → Int
  | 0 => 0
  | n + 1 => sumTo f n + f n
theorem bs_sum (c : List Int) : ∀ n : Nat, bs n 0 (0 :: c) = sumTo (fun i => bs i 0 c) n
  | 0 => bs_head 0 c
  | n + 1 => by
    have := bs_dif (n := n) (0 :: c)
    rw [this, bs_sum c n]
    rfl
/-! equal worths, equal polys -/
theorem far_const {a : Int} {f : Nat → Int} {N : Nat} (h : ∀ n, N ≤ n → a = n * f n) : a = 0 := by
  have h1 := h (max N (a.natAbs + 1)) (Nat.le_max_left _ _)
  have hd : ((max N (a.natAbs + 1) : Nat) : Int) ∣ a := ⟨_, h1⟩
  rcases Int.decEq a 0 with h0 | h0
  · have := Int.natAbs_dvd_natAbs.mpr hd
    have h2 := Nat.le_of_dvd (Int.natAbs_pos.mpr h0) this
    simp at h2
    omega
  · exact h0
theorem hw_zero : ∀ {l : List Int} {N : Nat}, (∀ n : Nat, N ≤ n → hw n l = 0) → ∀ c ∈ l, c = 0
  | [], _, _, c, hc => by cases hc
  | a :: r, N, h, c, hc => by
    have ha : a = 0 := far_const (f := fun n => - hw n r) (N := N) fun n hn => by
      have := h n hn
      have : hw n r * n + a = 0 := this
      grind
    have hr : ∀ n : Nat, N + 1 ≤ n → hw n r = 0 := fun n hn => by
      have h1 : hw n r * n + a = 0 := h n (by omega)
      rw [ha] at h1
      have h2 : hw n r * (n : Int) = 0 := by omega
      rcases Int.mul_eq_zero.mp h2 with w | w
      · exact w
      · omega
    rcases List.mem_cons.mp hc with rfl | hc
    · exact ha
    · exact hw_zero hr c hc
theorem hw_inj : ∀ {l m : List Int}, NF l → NF m → (∀ n : Nat, hw n l = hw n m) → l = m
  | l, m, hl, hm, h => by
    have h1 : ∀ c ∈ zs l (m.map ((-1) * ·)), c = 0 := hw_zero (N := 0) fun n _ => by
      rw [zs_hw, map_hw, h n]
      omega
    have : ∀ (l m : List Int), (∀ c ∈ zs l (m.map ((-1) * ·)), c = 0) → ∃ z y, (∀ c ∈ z, c = 0) ∧ (∀ c ∈ y, c = 0) ∧ l ++ z = m ++ y := by
      intro l
      induction l with
      | nil =>
        intro m hz
        refine ⟨m, [], fun c hc => ?_, nofun, by simp⟩
        have := hz ((-1) * c) (by show _ ∈ m.map _; exact List.mem_map.mpr ⟨c, hc, rfl⟩)
        omega
      | cons a l ih =>
        intro m hz
        cases m with
        | nil =>
          exact ⟨[], a :: l, nofun, fun c hc => hz c (by show c ∈ a :: l; exact hc), by simp⟩
        | cons b m =>
          have hz' : ∀ c ∈ (a + (-1) * b) :: zs l (m.map ((-1) * ·)), c = 0 := hz
          obtain ⟨z, y, h1, h2, h3⟩ := ih m fun c hc => hz' c (List.mem_cons_of_mem _ hc)
          have h4 := hz' _ (List.mem_cons_self ..)
          refine ⟨z, y, h1, h2, ?_⟩
          show a :: (l ++ z) = b :: (m ++ y)
          rw [h3]
          congr 1
          omega
    obtain ⟨z, y, h2, h3, h4⟩ := this l m h1
    have e1 := cut_uniq hl h2
    have e2 := cut_uniq hm h3
    rw [h4] at e1
    exact e1.symm.trans e2
end My
/-! PQ2: contents; what some parts of binomials make. No program in sight. -/
namespace My
def gcdL : Nat → List Int → Nat
  | g, [] => g
  | g, c :: r => gcdL (Nat.gcd g c.natAbs) r
theorem gcdL_dvd : ∀ (l : List Int) (g : Nat), gcdL g l ∣ g ∧ ∀ c ∈ l, (gcdL g l : Int) ∣ c
  | [], g => ⟨Nat.dvd_refl _, nofun⟩
  | c :: r, g => by
    obtain ⟨h1, h2⟩ := gcdL_dvd r (Nat.gcd g c.natAbs)
    refine ⟨Nat.dvd_trans h1 (Nat.gcd_dvd_left _ _), fun d hd => ?_⟩
    rcases List.mem_cons.mp hd with rfl | hd
    · exact Int.natAbs_dvd_natAbs.mp (by
        show (((gcdL (Nat.gcd g d.natAbs) r : Nat) : Int).natAbs) ∣ d.natAbs
        exact Nat.dvd_trans h1 (Nat.gcd_dvd_right _ _))
    · exact h2 d hd
theorem gcdL_great : ∀ (l : List Int) (g k : Nat), k ∣ g → (∀ c ∈ l, (k : Int) ∣ c) → k ∣ gcdL g l
  | [], g, k, h, _ => h
  | c :: r, g, k, h, hl => gcdL_great r _ k (Nat.dvd_gcd h (Int.natAbs_dvd_natAbs.mpr (hl c (List.mem_cons_self ..)))) fun d hd => hl d (List.mem_cons_of_mem _ hd)
theorem gcdL_one : ∀ (l : List Int), gcdL 1 l = 1
  | [] => rfl
  | c :: r => by
    show gcdL (Nat.gcd 1 c.natAbs) r = 1
    rw [Nat.gcd_one_left]
    exact gcdL_one r
theorem gcdL_gcd (l : List Int) (a b : Nat) : gcdL (Nat.gcd a b) l = Nat.gcd a (gcdL b l) := by
  induction l generalizing b with
  | nil => rfl
  | cons c r ih =>
    show gcdL (Nat.gcd (Nat.gcd a b) c.natAbs) r = Nat.gcd a (gcdL (Nat.gcd b c.natAbs) r)
    rw [Nat.gcd_assoc, ih]
/-- what is taken out -/
theorem div_hw {x : Int} {g : Int} (hg : g ≠ 0) : ∀ {l : List Int}, (∀ c ∈ l, g ∣ c) → hw x l = g * hw x (l.map (· / g))
  | [], _ => by simp [hw]
  | c :: r, h => by
    have ih := div_hw (x := x) hg (l := r) fun d hd => h d (List.mem_cons_of_mem _ hd)
    have hc := Int.mul_ediv_cancel' (h c (List.mem_cons_self ..))
    show hw x r * x + c = g * (hw x (r.map (· / g)) * x + c / g)
    grind
theorem div_nf {g : Int} (hg : g ≠ 0) {l : List Int} (h : ∀ c ∈ l, g ∣ c) (n : NF l) : NF (l.map (· / g)) := by
  unfold NF at n ⊢
  rw [List.getLast?_map]
  intro hh
  obtain ⟨c, h1, h2⟩ := Option.map_eq_some_iff.mp hh
  have hd := h c (List.mem_of_getLast? h1)
  have := Int.mul_ediv_cancel' hd
  rw [h2] at this
  apply n
  rw [h1]
  congr 1
  omega
/-- below and poly, in lowest terms -/
structure Low (b : Int) (l : List Int) : Prop where
  pos : 1 ≤ b
  nf : NF l
  gcd : Nat.gcd b.natAbs (gcdL 0 l) = 1
theorem low_of {b : Int} {l : List Int} (hb : 1 ≤ b) (n : NF l) : Low (b / (Nat.gcd b.natAbs (gcdL 0 l) : Nat)) (l.map (· / ((Nat.gcd b.natAbs (gcdL 0 l) : Nat) : Int))) ∧
    (0 : Int) < (Nat.gcd b.natAbs (gcdL 0 l) : Nat) ∧ ((Nat.gcd b.natAbs (gcdL 0 l) : Nat) : Int) ∣ b ∧ ∀ c ∈ l, ((Nat.gcd b.natAbs (gcdL 0 l) : Nat) : Int) ∣ c := by
  have hg0 : 0 < Nat.gcd b.natAbs (gcdL 0 l) := Nat.gcd_pos_of_pos_left _ (by omega)
  have e1 : Nat.gcd b.natAbs (gcdL 0 l) ∣ b.natAbs := Nat.gcd_dvd_left _ _
  have e2 : ∀ c ∈ l, ((Nat.gcd b.natAbs (gcdL 0 l) : Nat) : Int) ∣ c := fun c hc => Int.dvd_trans (Int.natCast_dvd_natCast.mpr (Nat.gcd_dvd_right _ _)) ((gcdL_dvd l 0).2 c hc)
  have e1' : ((Nat.gcd b.natAbs (gcdL 0 l) : Nat) : Int) ∣ b := Int.natAbs_dvd_natAbs.mp e1
  generalize hg : Nat.gcd b.natAbs (gcdL 0 l) = g at *
  have hgi : (0 : Int) < (g : Int) := by omega
  refine ⟨⟨?_, div_nf (by omega) e2 n, ?_⟩, hgi, e1', e2⟩
  · exact Int.ediv_pos_of_pos_of_dvd (by omega) (by omega) e1'
  · -- a common divisor k of b/g and l/g: k*g divides both
    have key : ∀ k : Nat, k ∣ (b / (g : Int)).natAbs → (∀ c ∈ l.map (· / (g : Int)), (k : Int) ∣ c) → k = 1 := fun k h1 h2 => by
      have hb' := Int.mul_ediv_cancel' e1'
      have k1 : (k : Int) ∣ b / (g : Int) := Int.natAbs_dvd_natAbs.mp h1
      have d1 : k * g ∣ b.natAbs := by
        have : ((k * g : Nat) : Int) ∣ b := by
          obtain ⟨m, hm⟩ := k1
          refine ⟨m, ?_⟩
          push_cast
          rw [← hb', hm]
          grind
        exact Int.natAbs_dvd_natAbs.mpr this
      have d2 : k * g ∣ gcdL 0 l := gcdL_great l 0 _ (Nat.dvd_zero _) fun c hc => by
        obtain ⟨m, hm⟩ := h2 (c / (g : Int)) (List.mem_map.mpr ⟨c, hc, rfl⟩)
        have hc' := Int.mul_ediv_cancel' (e2 c hc)
        refine ⟨m, ?_⟩
        push_cast
        rw [← hc', hm]
        grind
      have d3 : k * g ∣ g := by rw [← hg] at *; exact Nat.dvd_gcd d1 d2
      have := Nat.le_of_dvd hg0 d3
      have kp : 0 < k := by
        rcases Nat.eq_zero_or_pos k with z | z
        · subst z
          rw [Nat.zero_mul] at d1
          have := Nat.eq_zero_of_zero_dvd d1
          omega
        · exact z
      rcases Nat.lt_or_ge k 2 with z | z
      · omega
      · have : 2 * g ≤ k * g := Nat.mul_le_mul_right _ z
        omega
    exact key _ (Nat.gcd_dvd_left _ _) fun c hc => Int.dvd_trans (Int.natCast_dvd_natCast.mpr (Nat.gcd_dvd_right _ _)) ((gcdL_dvd _ 0).2 c hc)
/-- a poly that is a number times another one, in lowest terms: the number is 1 -/
theorem low_one {b : Int} {l p : List Int} (h : Low b l) (n : NF p) (e : ∀ x : Nat, hw x l = b * hw x p) : b = 1 ∧ l = p := by
  have hb : b ≠ 0 := by have := h.pos; omega
  have nb : NF (p.map (b * ·)) := by
    unfold NF at n ⊢
    rw [List.getLast?_map]
    intro hh
    obtain ⟨c, h1, h2⟩ := Option.map_eq_some_iff.mp hh
    rcases Int.mul_eq_zero.mp h2 with w | w
    · exact hb w
    · subst w
      exact n h1
  have e1 : l = p.map (b * ·) := hw_inj h.nf nb fun x => by rw [e x, map_hw]
  have hd : b.natAbs ∣ gcdL 0 l := gcdL_great l 0 _ (Nat.dvd_zero _) fun c hc => by
    rw [e1] at hc
    obtain ⟨d, _, rfl⟩ := List.mem_map.mp hc
    exact Int.dvd_trans (Int.natAbs_dvd.mpr (Int.dvd_refl b)) ⟨d, rfl⟩
  have hb1 : b.natAbs ∣ 1 := by
    rw [← h.gcd]
    exact Nat.dvd_gcd (Nat.dvd_refl _) hd
  have : b.natAbs = 1 := Nat.dvd_one.mp hb1
  have b1 : b = 1 := by have := h.pos; omega
  subst b1
  refine ⟨rfl, ?_⟩
  rw [e1]
  simp
/-! the loop of made_of_binomials -/
structure St where
  f : List Int
  b : Int
  p : List Int
def st1 (s : St) (at_ : Nat) (c : Int) : St := ⟨cutI (zs (scl (max 1 (at_ : Int)) s.f) (scl c s.p)), s.b * max 1 (at_ : Int), mulr (0 - (at_ : Int)) 0 s.p⟩
def stN : List Int → Nat → St → St
  | [], _, s => s
  | c :: r, k, s => stN r (k + 1) (st1 s k c)
def st0 : St := ⟨[], 1, [1]⟩
theorem bs_snoc {n : Nat} (c : Int) : ∀ (l : List Int) (k : Nat), bs n k (l ++ [c]) = bs n k l + c * bn n (k + l.length)
  | [], k => by
    show c * bn n k + 0 = 0 + c * bn n (k + 0)
    simp
  | a :: l, k => by
    show a * bn n k + bs n (k + 1) (l ++ [c]) = a * bn n k + bs n (k + 1) l + c * bn n (k + (l.length + 1))
    rw [bs_snoc c l (k + 1), show k + (l.length + 1) = k + 1 + l.length by omega]
    omega
structure StOk (l : List Int) (s : St) : Prop where
  nf : NF s.f
  b : s.b = ff 1 1 (l.length - 1)
  p : ∀ x : Int, hw x s.p = ff x (-1) l.length
  f : ∀ n : Nat, hw n s.f = s.b * bs n 0 l
theorem stOk0 : StOk [] st0 := ⟨by unfold NF st0; simp, rfl, fun x => by show (0 : Int) * x + 1 = 1; omega, fun n => by simp [st0, hw, bs]⟩
theorem bmax (k : Nat) : ff 1 1 (k - 1) * max 1 (k : Int) = ff 1 1 k := by
  cases k with
  | zero => rfl
  | succ k =>
    show ff 1 1 k * max 1 ((k + 1 : Nat) : Int) = ff 1 1 k * (1 + k * 1)
    have : max 1 ((k + 1 : Nat) : Int) = 1 + k * 1 := by omega
    rw [this]
theorem stOk_step {l : List Int} {s : St} (h : StOk l s) (c : Int) : StOk (l ++ [c]) (st1 s l.length c) := by
  have hl : (l ++ [c]).length = l.length + 1 := by simp
  have hb : s.b * max 1 (l.length : Int) = ff 1 1 l.length := by rw [h.b]; exact bmax _
  refine ⟨cut_nf _, ?_, fun x => ?_, fun n => ?_⟩
  · rw [hl]
    exact hb
  · rw [hl]
    show hw x (mulr (0 - (l.length : Int)) 0 s.p) = ff x (-1) l.length * (x + l.length * (-1))
    rw [mulr_hw, h.p x]
    grind
  · show hw n (cutI (zs (scl (max 1 (l.length : Int)) s.f) (scl c s.p))) = s.b * max 1 (l.length : Int) * bs n 0 (l ++ [c])
    rw [cut_hw, zs_hw, scl_hw, scl_hw, h.f n, h.p n, bs_snoc, bn_ff n l.length, hb, Nat.zero_add]
    have := hb
    grind
theorem stN_app : ∀ (l : List Int) (k : Nat) (s : St) (c : Int), stN (l ++ [c]) k s = st1 (stN l k s) (k + l.length) c
  | [], k, s, c => rfl
  | a :: r, k, s, c => by
    show stN (r ++ [c]) (k + 1) (st1 s k a) = _
    rw [stN_app r (k + 1)]
    show st1 (stN r (k + 1) (st1 s k a)) (k + 1 + r.length) c = st1 (stN r (k + 1) (st1 s k a)) (k + (r.length + 1)) c
    rw [show k + 1 + r.length = k + (r.length + 1) by omega]
def stOf (l : List Int) : St := stN l 0 st0
theorem stOf_snoc (l : List Int) (c : Int) : stOf (l ++ [c]) = st1 (stOf l) l.length c := by
  unfold stOf
  rw [stN_app, Nat.zero_add]
theorem stOf_take {l : List Int} {i : Nat} {c : Int} (h : l[i]? = some c) : stOf (l.take (i + 1)) = st1 (stOf (l.take i)) i c := by
  rw [List.take_add_one, h]
  show stOf (l.take i ++ [c]) = _
  rw [stOf_snoc, List.length_take, Nat.min_eq_left]
  exact Nat.le_of_lt (List.getElem?_eq_some_iff.mp h).1
theorem stOk_take : ∀ (i : Nat) (l : List Int), StOk (l.take i) (stOf (l.take i))
  | 0, l => by rw [List.take_zero]; exact stOk0
  | i + 1, l => by
    have ih := stOk_take i l
    cases q : l[i]? with
    | none =>
      have e : l.take (i + 1) = l.take i := by rw [List.take_add_one, q]; simp
      rw [e]
      exact ih
    | some c =>
      rw [stOf_take q]
      have hi : i < l.length := (List.getElem?_eq_some_iff.mp q).1
      have e : l.take (i + 1) = l.take i ++ [c] := by rw [List.take_add_one, q]; rfl
      rw [e]
      have := stOk_step ih c
      rw [List.length_take, Nat.min_eq_left (by omega)] at this
      exact this
theorem stOk_all (l : List Int) : StOk l (stOf l) := by
  have := stOk_take l.length l
  rw [List.take_length] at this
  exact this
/-- what made_of_binomials tells -/
def mobG (l : List Int) : Nat := Nat.gcd (stOf l).b.natAbs (gcdL 0 (stOf l).f)
def mobF (l : List Int) : List Int := (stOf l).f.map (· / (mobG l : Int))
def mobB (l : List Int) : Int := (stOf l).b / (mobG l : Int)
theorem mob_ok (l : List Int) : Low (mobB l) (mobF l) ∧ ∀ n : Nat, hw n (mobF l) = mobB l * bs n 0 l := by
  have h := stOk_all l
  have hb : 1 ≤ (stOf l).b := by rw [h.b]; exact fac_pos _
  obtain ⟨h1, h2, h3, h4⟩ := low_of hb h.nf
  refine ⟨h1, fun n => ?_⟩
  have e1 := div_hw (x := n) (Int.ne_of_gt h2) h4
  have e2 := h.f n
  have e3 := Int.mul_ediv_cancel' h3
  have g0 : ((mobG l : Nat) : Int) ≠ 0 := Int.ne_of_gt h2
  have e1' : hw n (stOf l).f = (mobG l : Int) * hw n (mobF l) := e1
  have e3' : (mobG l : Int) * mobB l = (stOf l).b := e3
  rw [e2, ← e3'] at e1'
  have : (mobG l : Int) * (mobB l * bs n 0 l) = (mobG l : Int) * hw n (mobF l) := by rw [← e1']; grind
  exact (Int.eq_of_mul_eq_mul_left g0 this).symm
/-- there and back -/
theorem mob_back {p : List Int} (n : NF p) : mobB (toBin p) = 1 ∧ mobF (toBin p) = p := by
  obtain ⟨h1, h2⟩ := mob_ok (toBin p)
  exact low_one h1 n fun x => by rw [h2, toBin_bs]
/-! sizes -/
theorem pw_le {n a b : Nat} (h : n < 2 ^ a) (hab : a ≤ b) : n < 2 ^ b := Nat.lt_of_lt_of_le h (Nat.pow_le_pow_right (by decide) hab)
theorem pw_mul {i j : Int} {a b : Nat} (h1 : i.natAbs < 2 ^ a) (h2 : j.natAbs < 2 ^ b) : (i * j).natAbs < 2 ^ (a + b) := by
  rw [Int.natAbs_mul, Nat.pow_add]
  exact Nat.mul_lt_mul'' h1 h2
theorem pw_add {i j : Int} {a : Nat} (h1 : i.natAbs < 2 ^ a) (h2 : j.natAbs < 2 ^ a) : (i + j).natAbs < 2 ^ (a + 1) := by
  have := Int.natAbs_add_le i j
  rw [Nat.pow_succ]
  omega
def Bd (B : Nat) (l : List Int) : Prop := ∀ c ∈ l, c.natAbs < 2 ^ B
theorem Bd.mono {A B : Nat} {l : List Int} (h : Bd A l) (hab : A ≤ B) : Bd B l := fun c hc => pw_le (h c hc) hab
theorem hw_bd {x : Int} {B m : Nat} (hx : x.natAbs < 2 ^ m) : ∀ {l : List Int}, Bd B l → (hw x l).natAbs < 2 ^ (B + (m + 1) * l.length)
  | [], _ => by
    show (0 : Int).natAbs < _
    exact Nat.two_pow_pos _
  | c :: r, h => by
    have ih := hw_bd hx (l := r) fun d hd => h d (List.mem_cons_of_mem _ hd)
    have h1 := pw_mul ih hx
    have h2 := pw_le (h c (List.mem_cons_self ..)) (show B ≤ B + (m + 1) * r.length + m by omega)
    have := pw_add h1 h2
    show (hw x r * x + c).natAbs < 2 ^ (B + (m + 1) * (r.length + 1))
    rw [show B + (m + 1) * (r.length + 1) = B + (m + 1) * r.length + m + 1 by rw [Nat.mul_add]; omega]
    exact this
theorem mulr_bd {c : Int} {B m : Nat} (hc : c.natAbs < 2 ^ m) : ∀ {l : List Int} {p : Int}, Bd B l → p.natAbs < 2 ^ B → Bd (B + m + 1) (mulr c p l)
  | [], p, _, hp, d, hd => by
    have : d = p := by simpa [mulr] using hd
    rw [this]
    exact pw_le hp (by omega)
  | a :: r, p, h, hp, d, hd => by
    have ha := h a (List.mem_cons_self ..)
    rcases List.mem_cons.mp (show d ∈ (a * c + p) :: mulr c a r from hd) with rfl | hd
    · exact pw_add (pw_mul ha hc) (pw_le hp (by omega))
    · exact mulr_bd hc (fun e he => h e (List.mem_cons_of_mem _ he)) ha d hd
theorem scl_bd {n : Int} {B m : Nat} (hn : n.natAbs < 2 ^ m) {l : List Int} (h : Bd B l) : Bd (m + B) (scl n l) := fun d hd => by
  unfold scl at hd
  split at hd
  · obtain ⟨c, hc, rfl⟩ := List.mem_map.mp hd
    exact pw_mul hn (h c hc)
  · cases hd
theorem zs_bd {B : Nat} {l m : List Int} (h1 : Bd B l) (h2 : Bd B m) : Bd (B + 1) (zs l m) := zs_mem (P := fun c => c.natAbs < 2 ^ B) (Q := fun c => c.natAbs < 2 ^ (B + 1)) (fun _ _ => pw_add) (fun _ h => pw_le h (by omega)) h1 h2
theorem cut_bd {B : Nat} {l : List Int} (h : Bd B l) : Bd B (cutI l) := fun c hc => h c (cut_mem hc)
/-- sizes in the loop; the counts are below 2^6 -/
theorem st_bd {B : Nat} : ∀ (i : Nat) {l : List Int}, Bd B l → l.length ≤ 60 → Bd (B + 8 * i + 1) (stOf (l.take i)).f ∧ (stOf (l.take i)).b.natAbs < 2 ^ (6 * i + 1) ∧ Bd (7 * i + 1) (stOf (l.take i)).p ∧ (stOf (l.take i)).p.length ≤ i + 1 ∧ (stOf (l.take i)).f.length ≤ i + 1
  | 0, l, h, hl => by
    rw [List.take_zero]
    exact ⟨nofun, by decide, fun c hc => by
      have : c = 1 := by simpa [stOf, stN, st0] using hc
      subst this
      decide, by decide, by decide⟩
  | i + 1, l, h, hl => by
    obtain ⟨h1, h2, h3, h4, h5⟩ := st_bd i h hl
    cases q : l[i]? with
    | none =>
      have e : l.take (i + 1) = l.take i := by rw [List.take_add_one, q]; simp
      rw [e]
      exact ⟨h1.mono (by omega), pw_le h2 (by omega), h3.mono (by omega), by omega, by omega⟩
    | some c =>
      rw [stOf_take q]
      have hi : i < l.length := (List.getElem?_eq_some_iff.mp q).1
      have hc := h c (List.mem_of_getElem? q)
      have hm : (max 1 (i : Int)).natAbs < 2 ^ 6 := by
        have : (2 : Nat) ^ 6 = 64 := by decide
        omega
      have hm2 : (0 - (i : Int)).natAbs < 2 ^ 6 := by
        have : (2 : Nat) ^ 6 = 64 := by decide
        omega
      refine ⟨?_, ?_, ?_, ?_, ?_⟩
      · refine cut_bd ?_
        have a1 : Bd (B + 8 * i + 7) (scl (max 1 (i : Int)) (stOf (l.take i)).f) := (scl_bd hm h1).mono (by omega)
        have a2 : Bd (B + 8 * i + 7) (scl c (stOf (l.take i)).p) := (scl_bd hc h3).mono (by omega)
        exact (zs_bd a1 a2).mono (by omega)
      · exact pw_le (pw_mul h2 hm) (by omega)
      · exact (mulr_bd hm2 h3 (Nat.two_pow_pos _)).mono (by omega)
      · show (mulr (0 - (i : Int)) 0 (stOf (l.take i)).p).length ≤ _
        rw [mulr_len]
        omega
      · show (cutI (zs (scl (max 1 (i : Int)) (stOf (l.take i)).f) (scl c (stOf (l.take i)).p))).length ≤ _
        have a1 := cut_len (zs (scl (max 1 (i : Int)) (stOf (l.take i)).f) (scl c (stOf (l.take i)).p))
        rw [zs_len] at a1
        have a2 : ∀ (n : Int) (l : List Int), (scl n l).length ≤ l.length := fun n l => by unfold scl; split <;> simp
        have a3 := a2 (max 1 (i : Int)) (stOf (l.take i)).f
        have a4 := a2 c (stOf (l.take i)).p
        omega
end My
namespace My
open PySem PySem.Spec PyProof.Rows L2 DL
/-! QA: the program's small functions -/
abbrev iL (l : List Int) : D := .list (l.map .int)
theorem sm_of {j : Int} (h : j.natAbs ≤ 2 ^ 60) : sm62 j := by
  have e : (2 : Nat) ^ 60 = 1152921504606846976 := by decide
  rw [e] at h
  unfold sm62
  have e2 : (2 : Int) ^ 62 = 4611686018427387904 := by decide
  rw [e2]
  omega
theorem log_lt {i : Int} {a : Nat} (h : i.natAbs < 2 ^ a) : i.natAbs.log2 < a + 1 := by
  rcases Nat.eq_zero_or_pos i.natAbs with z | z
  · rw [z]
    show Nat.log2 0 < a + 1
    rw [Nat.log2_zero]
    omega
  · have := (Nat.log2_lt (by omega)).mpr h
    omega
theorem cdv {i j : Int} (a : Nat) (h1 : j.natAbs < 2 ^ a) (h0 : j ≠ 0) (h : a < 8990) : CDv i j := ⟨h0, .inl (by have := log_lt h1; omega)⟩
theorem ix_int {l : List Int} {r : Nat} (h : r < l.length) : dIx (iL l) (.int (r : Int)) = some (.dat (.int l[r])) := by
  show (atI (l.map PyData.int) (r : Int)).map Rv.dat = _
  have e : ixN (l.map PyData.int).length (r : Int) = some r := by
    unfold ixN
    rw [if_pos (by omega), if_pos (by rw [List.length_map]; omega)]
    simp
  unfold atI
  rw [e]
  simp [h]
theorem ix_lastI {l : List Int} {x : Int} : dIx (iL (l ++ [x])) (.int (-1)) = some (.dat (.int x)) := by
  show (atI ((l ++ [x]).map PyData.int) (-1)).map Rv.dat = _
  have e : ixN ((l ++ [x]).map PyData.int).length (-1) = some l.length := by
    unfold ixN
    simp
    omega
  unfold atI
  rw [e]
  simp
theorem len_eq {l : List Int} : dLen [iL l] = some (di (l.length : Int)) := by
  show some (di ((l.map PyData.int).length : Int)) = _
  rw [List.length_map]
theorem plainI (l : List Int) : PyData.plainAll (l.map .int) = true := plain_all.mpr fun d hd => by
  obtain ⟨c, _, rfl⟩ := List.mem_map.mp hd
  rfl
theorem eq_nilI (l : List Int) : dEq (iL l) (.list []) = some (db l.isEmpty) := by
  rw [dEq_nil (plainI l)]
  cases l <;> rfl
theorem ne_nilI (l : List Int) : dNe (iL l) (.list []) = some (db (!l.isEmpty)) := by
  rw [dNe_nil (plainI l)]
  cases l <;> rfl
theorem wrapI {l : List Int} {d : D} (h : d ∈ l.map PyData.int) : ∃ c, c ∈ l ∧ d = .int c := by
  obtain ⟨c, h1, h2⟩ := List.mem_map.mp h
  exact ⟨c, h1, h2.symm⟩
theorem allok_t {α : Type} {l : List α} : allOk (l.map fun _ => PyData.bool true) = true := by
  unfold allOk
  rw [Bool.and_eq_true]
  refine ⟨plain_all.mpr fun d hd => ?_, List.all_eq_true.mpr fun d hd => ?_⟩
  · obtain ⟨b, _, rfl⟩ := List.mem_map.mp hd
    rfl
  · obtain ⟨b, _, rfl⟩ := List.mem_map.mp hd
    rfl
theorem all_true {α : Type} {l : List α} : dAll [.list (l.map fun _ => .bool true)] = some (db true) := by
  show (if allOk (l.map fun _ => PyData.bool true) = true then some (db ((l.map fun _ => PyData.bool true).all PyData.truthy)) else none) = _
  rw [if_pos allok_t, List.all_map]
  have : l.all (PyData.truthy ∘ fun _ => PyData.bool true) = true := List.all_eq_true.mpr fun _ _ => rfl
  rw [this]
theorem count_eq {i : Int} {cs : Cs} : m_is_count [.dat (.int i)] cs = some (db (decide (0 ≤ i)), cs) := by
  refine em_eq ?_
  unfold m_is_count
  rw [em_fnM]
  unfold b_is_count
  simp
  refine em_of is_whole_eq ?_
  simp [wholeB, dGe_int]
theorem nf_last {l : List Int} {x : Int} : NF (l ++ [x]) ↔ x ≠ 0 := by
  unfold NF
  rw [List.getLast?_append]
  simp
instance (l : List Int) : Decidable (NF l) := inferInstanceAs (Decidable (_ ≠ _))
theorem last_cases {α : Type} (ds : List α) : ds = [] ∨ ∃ r x, ds = r ++ [x] := by
  rcases List.eq_nil_or_concat ds with h | ⟨r, x, h⟩
  · exact .inl h
  · exact .inr ⟨r, x, by rw [h, List.concat_eq_append]⟩
theorem poly_eq {l : List Int} {cs : Cs} (hz : l.length ≤ sizeLine) : m_is_poly [.dat (iL l)] cs = some (db (decide (NF l)), cs) := by
  refine em_eq ?_
  unfold m_is_poly
  rw [em_fnM]
  unfold b_is_poly
  simp [isi_list]
  refine ec_pure (fun _ => true) (fun x => .bool true) (fun x hx cs' => ?_) (by simpa using hz) ?_
  · obtain ⟨c, _, rfl⟩ := wrapI hx
    simp [wipeR]
    refine em_of is_whole_eq ?_
    simp [wholeB]
  · rw [List.nil_append, List.filter_eq_self.mpr (fun _ _ => rfl), all_true]
    simp [eq_nilI, dNeg_int]
    rcases last_cases l with rfl | ⟨r, x, rfl⟩
    · simp [NF]
    · have e : (r ++ [x]).isEmpty = false := by cases r <;> rfl
      rw [ix_lastI (l := r) (x := x)]
      simp [fdNe_int, nf_last]
      by_cases hx : x = 0 <;> simp [hx]
theorem check_eq {l : List Int} {cs : Cs} (hz : l.length ≤ sizeLine) (h : NF l) : m_check_poly [.dat (iL l)] cs = some (.dat .none, cs) := by
  refine em_eq ?_
  unfold m_check_poly
  rw [em_fnM]
  unfold b_check_poly
  simp
  refine em_of (poly_eq hz) ?_
  simp [h]
end My
namespace My
open PySem PySem.Spec PyProof.Rows L2 DL
/-! QB: cut, worth, sum, multiple, product -/
def muC (ρ : Rho) (_ : Cs) : Nat := match ρ with
  | [_, some (.dat (.int y))] => y.toNat
  | _ => 0
theorem cutD_to {ds : List D} {r : Nat} (h : r ≤ ds.length) : DL.cutD ds none (some (r : Int)) = ds.take r := by
  unfold DL.cutD
  have e1 : HT.sIx ds.length 0 none = 0 := rfl
  have e2 : HT.sIx ds.length ds.length (some (r : Int)) = r := by
    unfold HT.sIx
    simp [show ¬ ((r : Int) < 0) by omega]
    omega
  rw [e1, e2]
  simp
theorem cutD_from {ds : List D} {r : Nat} (h : r ≤ ds.length) : DL.cutD ds (some (r : Int)) none = ds.drop r := by
  unfold DL.cutD
  have e1 : HT.sIx ds.length 0 (some (r : Int)) = r := by
    unfold HT.sIx
    simp [show ¬ ((r : Int) < 0) by omega]
    omega
  have e2 : HT.sIx ds.length ds.length none = ds.length := rfl
  rw [e1, e2]
  exact List.take_of_length_le (by rw [List.length_drop]; exact Nat.le_refl _)
theorem cut_take {l : List Int} {r : Nat} (hr : r ≤ l.length) (hz : ∀ c ∈ l.drop r, c = 0) (hn : r = 0 ∨ ∃ h : r - 1 < l.length, l[r - 1] ≠ 0) : l.take r = cutI l := by
  have e := cut_uniq (t := l.take r) (z := l.drop r) (by
    rcases hn with h | ⟨h, h2⟩
    · subst h
      unfold NF
      simp
    · unfold NF
      rw [List.getLast?_take]
      intro hh
      rcases Nat.eq_zero_or_pos r with z | z
      · subst z
        simp at hh
      · rw [if_neg (by omega), List.getElem?_eq_getElem h] at hh
        simp at hh
        exact h2 hh) hz
  rw [List.take_append_drop] at e
  exact e.symm
theorem cutp_eq {l : List Int} {cs : Cs} (hl : l.length ≤ 1000) : m_cut_poly [.dat (iL l)] cs = some (.fr ((cutI l).map .int), cs) := by
  suffices h : Em m_cut_poly [.dat (iL l)] cs fun z c => c = cs ∧ z = .fr ((cutI l).map .int) by
    obtain ⟨z, c, e, rfl, rfl⟩ := wpo_iff.mp h
    exact e
  unfold m_cut_poly
  rw [em_fnM]
  unfold b_cut_poly
  simp [len_eq]
  refine es_sWh (fun ρ c => c = cs ∧ ∃ r : Nat, r ≤ l.length ∧ ρ = [some (.dat (iL l)), some (di (r : Int))] ∧ ∀ c ∈ l.drop r, c = 0) muC ⟨rfl, l.length, Nat.le_refl _, rfl, by simp⟩ ?_
  rintro ρ c ⟨rfl, r, hr, rfl, hz⟩
  have stop : (r = 0 ∨ ∃ h : r - 1 < l.length, l[r - 1] ≠ 0) → Es (sRet (mSl (xVar 0) oNone (oSome (xVar 1)))) c.length [some (.dat (iL l)), some (di (r : Int))] c (DL.Fin c.length fun z c' => c' = c ∧ z = .fr ((cutI l).map .int)) := fun hn => by
    have e : dSl (iL l) none (some (r : Int)) = some (.fr ((l.map .int).take r)) := by
      show some (Rv.fr (DL.cutD _ _ _)) = _
      rw [cutD_to (by simpa using hr)]
    simp [e]
    rw [← cut_take hr hz hn, List.map_take]
  rcases Nat.eq_zero_or_pos r with h0 | h0
  · subst h0
    simp [dGt_int]
    simpa using stop (.inl rfl)
  · have e1 : (r : Int) - 1 = ((r - 1 : Nat) : Int) := by omega
    have hlt : r - 1 < l.length := by omega
    have gt : (0 : Int) < (r : Int) := by omega
    simp only [et_mTAnd, et_mTB, ev_mB, ev_xVar, ev_xC]
    simp [dGt_int, h0, dSub_int]
    rw [e1, ix_int hlt]
    by_cases hx : l[r - 1] = 0
    · simp [fdEq_int, hx, dSub_int, muC]
      refine ⟨⟨r - 1, by omega, by omega, ?_⟩, by omega⟩
      intro c hc
      have : l.drop (r - 1) = l[r - 1] :: l.drop r := by
        rw [List.drop_eq_getElem_cons hlt, show r - 1 + 1 = r by omega]
      rw [this] at hc
      rcases List.mem_cons.mp hc with q | q
      · rw [q, hx]
      · exact hz c q
    · simp [fdEq_int, hx]
      simpa using stop (.inr ⟨hlt, hx⟩)
theorem rev_take {x : Int} {l : List Int} {i : Nat} {c : Int} (h : l.reverse[i]? = some c) : hw x (l.reverse.take (i + 1)).reverse = hw x (l.reverse.take i).reverse * x + c := by
  rw [List.take_add_one, h, List.reverse_append]
  rfl
theorem worth_eq {l : List Int} {x : Int} {B m : Nat} {cs : Cs} (hx : x.natAbs < 2 ^ m) (hl : Bd B l) (hz : B + (m + 1) * l.length + m < 1000000) : m_worth_in [.dat (iL l), .dat (.int x)] cs = some (.dat (.int (hw x l)), cs) := by
  refine em_eq ?_
  unfold m_worth_in
  rw [em_fnM]
  unfold b_worth_in
  simp [dRev]
  refine el_inv (k := 0) (fun i ρ cs' => cs' = cs ∧ ∃ v3, ρ = [some (.dat (iL l)), some (.dat (.int x)), some (.dat (.int (hw x (l.reverse.take i).reverse))), v3]) ⟨rfl, none, rfl⟩ ?_ ?_
  · rintro i d ρ cs' hd ⟨rfl, v3, rfl⟩
    rw [Nat.zero_add] at *
    have hd' : (l.reverse.map PyData.int)[i]? = some d := by simpa using hd
    rw [List.getElem?_map] at hd'
    obtain ⟨c, hc, rfl⟩ := Option.map_eq_some_iff.mp hd'
    have hb := hw_bd (x := x) hx (l := (l.reverse.take i).reverse) (fun c hc => hl c (by
      rw [List.mem_reverse] at hc
      have := List.mem_of_mem_take hc
      rwa [List.mem_reverse] at this))
    have hb' := pw_le hb (b := B + (m + 1) * l.length) (by
      rw [List.length_reverse, List.length_take, List.length_reverse]
      exact Nat.add_le_add_left (Nat.mul_le_mul_left _ (Nat.min_le_right _ _)) _)
    rw [rev_take hc]
    simp [dMul_int (cml (i := hw x (l.reverse.take i).reverse) (j := x) _ m hb' hx (by omega)), dAdd_int]
  · rintro ρ cs' ⟨rfl, v3, rfl⟩
    have e : ∀ n, n = l.length → l.reverse.take n = l.reverse := fun n h => List.take_of_length_le (by rw [h]; simp)
    rw [e _ (by simp), List.reverse_reverse]
    simp
theorem lworth_eq {l : List Int} {x : Int} {B m : Nat} {cs : Cs} (hx : x.natAbs < 2 ^ m) (hl : Bd B l) (hz : B + (m + 1) * l.length + m < 1000000) : m__law_worth [.dat (iL l), .dat (.int x)] cs = some (.dat (.int (hw x l)), cs) := worth_eq hx hl hz
theorem enumI_mem : ∀ {l : List Int} {k : Nat} {d : D}, d ∈ enumD k (l.map .int) → ∃ (i : Nat) (h : i < l.length), d = .tuple [.int ((k + i : Nat) : Int), .int l[i]]
  | [], _, d, h => by cases h
  | c :: l, k, d, h => by
    rcases List.mem_cons.mp (show d ∈ .tuple [.int (k : Int), .int c] :: enumD (k + 1) (l.map .int) from h) with rfl | h
    · exact ⟨0, by simp, by simp⟩
    · obtain ⟨i, hi, rfl⟩ := enumI_mem h
      refine ⟨i + 1, by simpa using hi, ?_⟩
      simp
      omega
/-- the sums of the items of one list, enumerated from k, and of another one's from k on -/
theorem zs_enum : ∀ {l m : List Int} {k : Nat} {F : D → D}, l.length ≤ m.length → (∀ (i : Nat) (h : i < l.length) (h2 : i < m.length), F (.tuple [.int ((k + i : Nat) : Int), .int l[i]]) = .int (l[i] + m[i])) → (enumD k (l.map .int)).map F ++ (m.drop l.length).map .int = (zs l m).map .int
  | [], m, k, F, _, _ => by
    show [] ++ (m.drop 0).map PyData.int = m.map .int
    simp
  | a :: l, [], k, F, h, _ => by simp at h
  | a :: l, b :: m, k, F, h, hf => by
    have h0 := hf 0 (by simp) (by simp)
    have ih := zs_enum (l := l) (m := m) (k := k + 1) (F := F) (by simpa using h) fun i h1 h2 => by
      have := hf (i + 1) (by simpa using h1) (by simpa using h2)
      rw [show k + (i + 1) = k + 1 + i by omega] at this
      simpa using this
    show F (.tuple [.int (k : Int), .int a]) :: (enumD (k + 1) (l.map .int)).map F ++ ((b :: m).drop (l.length + 1)).map .int = .int (a + b) :: (zs l m).map .int
    have h0' : F (.tuple [.int (k : Int), .int a]) = .int (a + b) := by simpa using h0
    rw [h0']
    show PyData.int (a + b) :: ((enumD (k + 1) (l.map .int)).map F ++ (m.drop l.length).map .int) = _
    rw [ih]
theorem scaled_eq {l : List Int} {n : Int} {A B : Nat} {cs : Cs} (hn : n.natAbs < 2 ^ A) (hl : Bd B l) (hz : A + B < 1000000) (hs : l.length ≤ 1000) : m_scaled_in [.dat (iL l), .dat (.int n)] cs = some (.fr ((scl n l).map .int), cs) := by
  refine em_eq ?_
  unfold m_scaled_in
  rw [em_fnM]
  unfold b_scaled_in scl
  have h1k : 1000 ≤ sizeLine := by decide +kernel
  by_cases h0 : n = 0
  · simp [h0, fdNe_int]
  · simp [fdNe_int, h0]
    refine ec_pure (fun _ => true) (fun d => match d with | .int c => .int (n * c) | d => d) (fun d hd cs' => ?_) (by simp; omega) ?_
    · obtain ⟨c, hc, rfl⟩ := wrapI hd
      simp [wipeR, dMul_int (cml (i := n) (j := c) A B hn (hl c hc) (by omega))]
    · rw [List.filter_eq_self.mpr (fun _ _ => rfl)]
      simp [Function.comp_def]
end My
namespace My
open PySem PySem.Spec PyProof.Rows L2 DL
/-! QC: sums and products -/
theorem k1 : 1000 ≤ sizeLine := by decide +kernel
theorem zs_enum2 : ∀ {lo sh : List Int} {k : Nat} {F : D → D}, sh.length ≤ lo.length → (∀ (i : Nat) (h : i < sh.length) (h2 : i < lo.length), F (.tuple [.int ((k + i : Nat) : Int), .int lo[i]]) = .int (lo[i] + sh[i])) → (enumD k ((lo.take sh.length).map .int)).map F ++ (lo.drop sh.length).map .int = (zs lo sh).map .int
  | lo, [], k, F, _, _ => by
    rw [zs_nil]
    simp [enumD]
  | [], b :: m, k, F, h, _ => by simp at h
  | a :: l, b :: m, k, F, h, hf => by
    have h0 := hf 0 (by simp) (by simp)
    have ih := zs_enum2 (lo := l) (sh := m) (k := k + 1) (F := F) (by simpa using h) fun i h1 h2 => by
      have := hf (i + 1) (by simpa using h1) (by simpa using h2)
      rw [show k + (i + 1) = k + 1 + i by omega] at this
      simpa [len_eq] using this
    have h0' : F (.tuple [.int (k : Int), .int a]) = .int (a + b) := by simpa using h0
    show F (.tuple [.int (k : Int), .int a]) :: (enumD (k + 1) ((l.take m.length).map .int)).map F ++ (l.drop m.length).map .int = .int (a + b) :: (zs l m).map .int
    rw [h0', ← ih]
    rfl
def sF (sh : List Int) : D → D
  | .tuple [.int i, .int c] => .int (c + (sh[i.toNat]?.getD 0))
  | d => d
theorem addL {x y : List D} (h : x.length + y.length ≤ sizeLine) : dAdd (.list x) (.list y) = some (.fr (x ++ y)) := if_pos h
noncomputable def sumRest : MS := (sSeq (sSet 2 (mB dAdd (xComp (iEn (aCons (mSl (xVar 3) oNone (oSome (mCall dLen (aCons (xVar 4) aNil)))) aNil)) (gTp 2 (gsCons (gNm 5) (gsCons (gNm 6) gsNil))) mYes (mB dAdd (xVar 6) (mB dIx (xVar 4) (xVar 5))) [5, 6]) (mSl (xVar 3) (oSome (mCall dLen (aCons (xVar 4) aNil))) oNone)))
  (sRet (mCallF 1 m_cut_poly (aCons (xVar 2) aNil))))
noncomputable def sumHead : MS := (sAsg (mIf (mTB (mB dGe (mCall dLen (aCons (xVar 0) aNil)) (mCall dLen (aCons (xVar 1) aNil)))) (xTup (aCons (xVar 0) (aCons (xVar 1) aNil))) (xTup (aCons (xVar 1) (aCons (xVar 0) aNil)))) (gTp 2 (gsCons (gNm 3) (gsCons (gNm 4) gsNil))))
theorem sum_eq {one other : List Int} {cs : Cs} (h1 : one.length ≤ 900) (h2 : other.length ≤ 900) : m_sum_in [.dat (iL one), .dat (iL other)] cs = some (.fr ((cutI (zs one other)).map .int), cs) := by
  have main : ∀ lo sh : List Int, sh.length ≤ lo.length → lo.length ≤ 900 → Es sumRest cs.length [some (.dat (iL one)), some (.dat (iL other)), none, some (.dat (iL lo)), some (.dat (iL sh)), none, none] cs (DL.Fin cs.length fun r c => r = .fr ((cutI (zs lo sh)).map .int) ∧ c = cs) := by
    intro lo sh hls hl
    have e1 : dSl (iL lo) none (some (sh.length : Int)) = some (.fr ((lo.take sh.length).map .int)) := by
      show some (Rv.fr (DL.cutD _ _ _)) = _
      rw [cutD_to (by simpa using hls), List.map_take]
    have e2 : dSl (iL lo) (some (sh.length : Int)) none = some (.fr ((lo.drop sh.length).map .int)) := by
      show some (Rv.fr (DL.cutD _ _ _)) = _
      rw [cutD_from (by simpa using hls), List.map_drop]
    unfold sumRest
    simp only [es_sSeq, es_sSet, ev_mB, ev_xComp]
    simp [len_eq, e1]
    refine ec_pure (fun _ => true) (sF sh) (fun d hd cs' => ?_) (by rw [enumD_len]; simp; have := k1; omega) ?_
    · rw [← List.map_take] at hd
      obtain ⟨i, hi, rfl⟩ := enumI_mem hd
      have hi2 : i < sh.length := by
        rw [List.length_take] at hi
        omega
      simp [wipeR]
      rw [ix_int hi2]
      simp [dAdd_int, hi2, sF]
    · rw [List.filter_eq_self.mpr (fun _ _ => rfl)]
      simp [len_eq, e2]
      have e3 := zs_enum2 (lo := lo) (sh := sh) (k := 0) (F := sF sh) hls fun i h1 h2 => by simp [h1, sF]
      rw [← List.map_take, ← List.map_drop]
      rw [addL (by rw [List.length_map, enumD_len, List.length_map, List.length_map, List.length_take, List.length_drop]; have := k1; omega), e3]
      simp
      refine em_of (cutp_eq (by rw [zs_len]; omega)) ?_
      simp
  refine em_eq ?_
  unfold m_sum_in
  rw [em_fnM]
  rw [show b_sum_in = sSeq sumHead sumRest from rfl, es_sSeq]
  unfold sumHead
  simp [len_eq, dGe_int]
  by_cases hc : other.length ≤ one.length
  · simp [hc]
    exact ⟨two_fit, main one other hc h1⟩
  · simp [hc]
    have := main other one (by omega) h2
    rw [zs_comm other one] at this
    exact ⟨two_fit, this⟩
/-! ### the product with n + c -/
end My
namespace My
open PySem PySem.Spec PyProof.Rows L2 DL
/-! QD: the product with n + c -/
theorem mulr_snoc {c : Int} : ∀ (l : List Int) (p : Int), ∃ (Y : List Int) (z : Int), mulr c p l = Y ++ [z] ∧ Y.length = l.length ∧ ∀ a, mulr c p (l ++ [a]) = Y ++ [z + a * c, a]
  | [], p => ⟨[], p, rfl, rfl, fun a => by show [a * c + p, a] = [p + a * c, a]; rw [Int.add_comm]⟩
  | b :: r, p => by
    obtain ⟨Y, z, h1, h2, h3⟩ := mulr_snoc r b (c := c)
    refine ⟨(b * c + p) :: Y, z, ?_, by simp [h2], fun a => ?_⟩
    · show (b * c + p) :: mulr c b r = _
      rw [h1]
      rfl
    · show (b * c + p) :: mulr c b (r ++ [a]) = _
      rw [h3 a]
      rfl
def pst (c : Int) (l : List Int) (i : Nat) : List Int := mulr c 0 (l.take i) ++ List.replicate (l.length - i) 0
theorem put_step {c : Int} {l : List Int} {i : Nat} {a : Int} (h : l[i]? = some a) : ∃ (Y : List Int) (z : Int) (Z : List Int), pst c l i = Y ++ z :: 0 :: Z ∧ Y.length = i ∧ pst c l (i + 1) = Y ++ (z + a * c) :: a :: Z := by
  have hi := (List.getElem?_eq_some_iff.mp h).1
  obtain ⟨Y, z, h1, h2, h3⟩ := mulr_snoc (l.take i) 0 (c := c)
  refine ⟨Y, z, List.replicate (l.length - (i + 1)) 0, ?_, by rw [h2, List.length_take]; omega, ?_⟩
  · unfold pst
    rw [h1, show l.length - i = (l.length - (i + 1)) + 1 by omega, List.replicate_succ]
    simp
  · unfold pst
    rw [List.take_add_one, h]
    show mulr c 0 (l.take i ++ [a]) ++ _ = _
    rw [h3 a]
    simp
theorem get_at {Y Z : List Int} {z i : Int} (h : i = (Y.length : Int)) : dIx (iL (Y ++ z :: Z)) (.int i) = some (.dat (.int z)) := by
  rw [h, ix_int (l := Y ++ z :: Z) (r := Y.length) (by simp)]
  simp
theorem ixN_at {n i : Nat} {j : Int} (h : j = (i : Int)) (hn : i < n) : ixN n j = some i := by
  rw [h, ixN_nat (by omega) (by omega)]
  rfl
theorem set_at {Y Z : List Int} {z x : Int} : ((Y ++ z :: Z).map PyData.int).set Y.length (.int x) = (Y ++ x :: Z).map .int := by
  rw [List.map_append, List.map_append, List.set_append_right _ _ (by simp)]
  simp
theorem last_get {cs : Cs} {c : List D} : (cs ++ [some c])[cs.length]? = some (some c) := by simp
theorem last_set {cs : Cs} {c d : List D} : (cs ++ [some c]).set cs.length (some d) = cs ++ [some d] := by
  rw [List.set_append_right _ _ (Nat.le_refl _)]
  simp
noncomputable def pPut : MS := (sPut 2 (mB dAdd (xVar 3) (xVar 5)) (mB dAdd (mB dIx (xVar 2) (mB dAdd (xVar 3) (xVar 5))) (mB dMul (xVar 4) (xVar 6))))
theorem put_em {n0 : Nat} {cs : Cs} {QS : Out → Prop} {d0 d1 : D} {i j a b z : Int} {Y Z : List Int} (h : i + j = (Y.length : Int)) (hm : CMl a b) (q : QS (.nx [some (.dat d0), some (.dat d1), some (.own cs.length), some (di i), some (di a), some (di j), some (di b)] (cs ++ [some ((Y ++ (z + a * b) :: Z).map .int)]))) :
    Es pPut n0 [some (.dat d0), some (.dat d1), some (.own cs.length), some (di i), some (di a), some (di j), some (di b)] (cs ++ [some ((Y ++ z :: Z).map .int)]) QS := by
  unfold pPut
  simp only [es_sPut, ev_mB, ev_xVar]
  simp [dAdd_int, dMul_int hm]
  rw [o2_od last_get]
  rw [← List.map_cons (f := PyData.int), ← List.map_append, show PyData.list ((Y ++ z :: Z).map .int) = iL (Y ++ z :: Z) from rfl, get_at h]
  simp [dAdd_int]
  rw [ixN_at h (by omega)]
  rw [← List.map_cons (f := PyData.int), ← List.map_append, wpd_some, set_at]
  exact q
theorem enum_get : ∀ {l : List Int} {k i : Nat} {d : D}, (enumD k (l.map .int))[i]? = some d → ∃ c, l[i]? = some c ∧ d = .tuple [.int ((k + i : Nat) : Int), .int c]
  | [], _, _, _, h => by simp [enumD] at h
  | c :: l, k, 0, d, h => by
    have h' : some (PyData.tuple [.int (k : Int), .int c]) = some d := h
    cases h'
    exact ⟨c, rfl, rfl⟩
  | c :: l, k, i + 1, d, h => by
    have h' : (enumD (k + 1) (l.map .int))[i]? = some d := h
    obtain ⟨a, h1, h2⟩ := enum_get h'
    exact ⟨a, h1, by rw [h2, show k + 1 + i = k + (i + 1) by omega]⟩
theorem dMul_list {ds : List D} {k : Int} (h : 0 ≤ k ∧ k < 2 ^ 31 ∧ ds.length * k.toNat ≤ sizeLine) : dMul (.list ds) (.int k) = some (.fr (List.replicate k.toNat ds).flatten) := if_pos h
theorem prod_eq {l : List Int} {c : Int} {B m : Nat} {cs : Cs} (hn : l ≠ []) (hs : l.length ≤ 1000) (hc : c.natAbs < 2 ^ m) (hl : Bd B l) (hz : B + m < 1000000) : m_product_in [.dat (iL l), .dat (iL [c, 1])] cs = some (.fr ((mulr c 0 l).map .int), cs) := by
  have k1000 : 1000 + 1000 ≤ sizeLine := by decide +kernel
  refine em_eq ?_
  unfold m_product_in
  rw [em_fnM]
  unfold b_product_in
  have e1 : (l.isEmpty) = false := by cases l <;> simp at hn ⊢
  simp [eq_nilI, e1, len_eq]
  simp [dAdd_int, dSub_int]
  refine ⟨by omega, ?_⟩
  rw [dMul_list ⟨by omega, by omega, by simp; omega⟩]
  simp
  have e0 : List.replicate (((l.length : Int) + 2).toNat - 1) (PyData.int 0) = (pst c l 0).map .int := by
    rw [show ((l.length : Int) + 2).toNat - 1 = l.length + 1 by omega]
    unfold pst
    simp [mulr, List.replicate_succ]
  rw [e0]
  refine el_inv (k := 0) (fun i ρ cs' => cs' = cs ++ [some ((pst c l i).map .int)] ∧ ∃ v3 v4 v5 v6, ρ = [some (.dat (iL l)), some (.dat (iL [c, 1])), some (.own cs.length), v3, v4, v5, v6]) ⟨rfl, none, none, none, none, rfl⟩ ?_ ?_
  · rintro i d ρ cs' hd ⟨rfl, v3, v4, v5, v6, rfl⟩
    rw [Nat.zero_add] at *
    obtain ⟨a, ha, rfl⟩ := enum_get hd
    rw [Nat.zero_add] at *
    obtain ⟨Y, z, Z, h1, h2, h3⟩ := put_step (c := c) ha
    have hm : CMl a c := cml B m (hl a (List.mem_of_getElem? ha)) hc (by omega)
    have hm1 : CMl a 1 := cml B 1 (hl a (List.mem_of_getElem? ha)) (by decide) (by omega)
    rw [h1, h3]
    have hI : ((i : Nat) : Int) = (Y.length : Int) := by omega
    generalize ((i : Nat) : Int) = I at *
    by_cases h0 : a = 0
    · subst h0
      simp [fdNe_int]
    · generalize hT : (Y ++ z :: 0 :: Z).map PyData.int = T
      generalize hT2 : (Y ++ (z + a * c) :: a :: Z).map PyData.int = T2
      simp [fdNe_int, h0]
      rw [← hT]
      rw [show enumD 0 [PyData.int c, PyData.int 1] = [.tuple [.int 0, .int c], .tuple [.int 1, .int 1]] from rfl]
      rw [el_cons]
      simp only [eg_gTp, egs_cons, eg_gNm, egs_nil]
      refine ⟨rfl, ?_⟩
      refine put_em (n0 := cs.length) (cs := cs) (d0 := iL l) (d1 := iL [c, 1]) (i := I) (j := 0) (a := a) (b := c) (z := z) (Y := Y) (Z := 0 :: Z) (by omega) hm ?_
      show El _ _ _ _ _ _ _
      rw [el_cons]
      simp only [eg_gTp, egs_cons, eg_gNm, egs_nil]
      refine ⟨rfl, ?_⟩
      have p2 := fun QS => put_em (QS := QS) (n0 := cs.length) (cs := cs) (d0 := iL l) (d1 := iL [c, 1]) (i := I) (j := 1) (a := a) (b := 1) (z := 0) (Y := Y ++ [z + a * c]) (Z := Z) (by simp; omega) hm1
      simp only [List.append_assoc, List.singleton_append] at p2
      refine p2 _ ?_
      show El _ _ _ _ _ _ _
      rw [el_nil]
      rw [← hT2]
      simp
  · rintro ρ cs' ⟨rfl, v3, v4, v5, v6, rfl⟩
    have e9 : pst c l l.length = mulr c 0 l := by unfold pst; simp
    rw [enumD_len, List.length_map, Nat.zero_add, e9]
    simp
end My
namespace My
open PySem PySem.Spec PyProof.Rows L2 DL
/-! QE: contents, lesser parts -/
theorem common_nat {a b : Int} {g h : Nat} {cs : Cs} (ha : a = (g : Int)) (hb : b = (h : Int)) : m_common_of [.dat (.int a), .dat (.int b)] cs = some (di ((Nat.gcd g h : Nat) : Int), cs) := by
  rw [common_eq, ha, hb]
  rfl
theorem content_eq {l : List Int} {cs : Cs} : m_content_in [.dat (iL l)] cs = some (di ((gcdL 0 l : Nat) : Int), cs) := by
  suffices h : ∀ w : Int, w = ((gcdL 0 l : Nat) : Int) → m_content_in [.dat (iL l)] cs = some (di w, cs) from h _ rfl
  intro w hw
  refine em_eq ?_
  unfold m_content_in
  rw [em_fnM]
  unfold b_content_in
  simp
  refine el_inv (k := 0) (fun i ρ cs' => cs' = cs ∧ ∃ (G : Int) (g : Nat) (v2 : Option Rv), ρ = [some (.dat (iL l)), some (di G), v2] ∧ G = (g : Int) ∧ gcdL g (l.drop i) = gcdL 0 l) ⟨rfl, 0, 0, none, rfl, rfl, rfl⟩ ?_ ?_
  · rintro i d ρ cs' hd ⟨rfl, G, g, v2, rfl, hG, e⟩
    rw [Nat.zero_add] at *
    rw [List.getElem?_map] at hd
    obtain ⟨c, hc, rfl⟩ := Option.map_eq_some_iff.mp hd
    have hlt := (List.getElem?_eq_some_iff.mp hc).1
    have hc' : l[i] = c := (List.getElem?_eq_some_iff.mp hc).2
    rw [List.drop_eq_getElem_cons hlt, hc'] at e
    have e' : gcdL (Nat.gcd g c.natAbs) (l.drop (i + 1)) = gcdL 0 l := e
    simp [dAbs_int]
    generalize hA : (c.natAbs : Int) = A at *
    have hA' : ∃ h : Nat, A = (h : Int) ∧ h = c.natAbs := ⟨_, hA.symm, rfl⟩
    have hx := common_nat (cs := cs') hG hA.symm
    generalize hN : Nat.gcd g c.natAbs = N at *
    have : ∃ M : Int, M = (N : Int) := ⟨_, rfl⟩
    obtain ⟨M, hM⟩ := this
    rw [← hM] at hx
    refine em_of hx ?_
    simp [fdEq_int]
    by_cases h1 : M = 1
    · simp [h1]
      have hN1 : N = 1 := by omega
      rw [hN1, gcdL_one] at e'
      rw [hw, ← e']
      rfl
    · simp [h1]
      exact ⟨N, hM, e'⟩
  · rintro ρ cs' ⟨rfl, G, g, v2, rfl, hG, e⟩
    rw [show (0 + (l.map PyData.int).length) = l.length by simp, List.drop_length] at e
    have e' : g = gcdL 0 l := e
    simp
    rw [hw, hG, e']
theorem lesser_eq {b : Int} {l : List Int} {cs : Cs} (hb : 1 ≤ b) (hz : b.natAbs < 2 ^ 8000) (hl : l.length ≤ 1000) (ok : okCs cs = true) : m_lesser_parts [.dat (.int b), .dat (.list [iL l])] cs =
    some (.ft (.tuple [.int (b / ((Nat.gcd b.natAbs (gcdL 0 l) : Nat) : Int)), .list [iL (l.map (· / ((Nat.gcd b.natAbs (gcdL 0 l) : Nat) : Int)))]]), cs) := by
  have hg : 0 < Nat.gcd b.natAbs (gcdL 0 l) := Nat.gcd_pos_of_pos_left _ (by omega)
  have hg2 : Nat.gcd b.natAbs (gcdL 0 l) < 2 ^ 8000 := Nat.lt_of_le_of_lt (Nat.gcd_le_left _ (by omega)) hz
  suffices h : ∀ w w1 w2 : Int, w = ((Nat.gcd b.natAbs (gcdL 0 l) : Nat) : Int) → w1 = ((gcdL 0 l : Nat) : Int) → w2 = (b.natAbs : Int) → m_lesser_parts [.dat (.int b), .dat (.list [iL l])] cs = some (.ft (.tuple [.int (b / w), .list [iL (l.map (· / w))]]), cs) from h _ _ _ rfl rfl rfl
  intro w w1 w2 h0 h1 h2
  have hp : 0 < w := by omega
  have hwz : w.natAbs < 2 ^ 8000 := by rw [h0]; exact hg2
  have e1 : m_content_in [.dat (iL l)] cs = some (di w1, cs) := by rw [h1]; exact content_eq
  have e2 : m_common_of [.dat (.int w2), .dat (.int w1)] cs = some (di w, cs) := by rw [h0]; exact common_nat h2 h1
  have k1000 : 1000 ≤ sizeLine := by decide +kernel
  refine em_eq ?_
  unfold m_lesser_parts
  rw [em_fnM]
  unfold b_lesser_parts
  simp [dAbs_int, el_cons]
  rw [← h2]
  refine em_of e1 ?_
  simp
  refine em_of e2 ?_
  simp [Lp, dDiv_int (cdv 8000 hwz (by omega) (by omega)), fdiv_pos hp]
  refine ev_compF (fun d => match d with
    | .list ds => ds.map fun x => match x with
      | .int c => .int (c / w)
      | x => x
    | _ => []) ?_
  simp only [ei_iSeq, ev_xVar]
  simp [ok, two_fit]
  have e9 : l.map ((fun x => match x with
      | .int c => PyData.int (c / w)
      | x => x) ∘ PyData.int) = (l.map (· / w)).map .int := by
    rw [List.map_map]
    exact List.map_congr_left fun _ _ => rfl
  refine ⟨?_, ?_, by omega⟩
  · simp [wipeR]
    refine ec_pure (fun _ => true) (fun x => match x with
      | .int c => .int (c / w)
      | x => x) (fun x hx cs' => ?_) (by simp; omega) ?_
    · obtain ⟨c, _, rfl⟩ := wrapI hx
      simp [wipeR, dDiv_int (cdv (i := c) 8000 hwz (by omega) (by omega)), fdiv_pos hp]
    · rw [List.nil_append, List.filter_eq_self.mpr (fun _ _ => rfl), List.map_map]
      exact ⟨rfl, rfl⟩
  · rw [e9]
    exact noLs_ints _
end My
namespace My
open PySem PySem.Spec PyProof.Rows L2 DL
/-! QF: falling and rising products -/
def pby (b : Int) : Nat → List Int
  | 0 => [1]
  | n + 1 => mulr ((n : Int) * b) 0 (pby b n)
theorem pby_hw {x b : Int} : ∀ n, hw x (pby b n) = ff x b n
  | 0 => by show (0 : Int) * x + 1 = 1; omega
  | n + 1 => by
    show hw x (mulr ((n : Int) * b) 0 (pby b n)) = ff x b n * (x + n * b)
    rw [mulr_hw, pby_hw n]
    omega
theorem pby_len {b : Int} : ∀ n, (pby b n).length = n + 1
  | 0 => rfl
  | n + 1 => by
    show (mulr ((n : Int) * b) 0 (pby b n)).length = _
    rw [mulr_len, pby_len n]
theorem pby_last {b : Int} : ∀ n, (pby b n).getLast? = some 1
  | 0 => rfl
  | n + 1 => by
    show (mulr ((n : Int) * b) 0 (pby b n)).getLast? = _
    have ih := pby_last (b := b) n
    rw [mulr_last]
    have hne : pby b n ≠ [] := fun h => by rw [h] at ih; cases ih
    rw [List.getLast_cons hne]
    rw [List.getLast?_eq_getLast hne] at ih
    exact ih
theorem pby_nf {b : Int} (n : Nat) : NF (pby b n) := by unfold NF; rw [pby_last]; decide
theorem pby_ne {b : Int} (n : Nat) : pby b n ≠ [] := fun h => by have := pby_last (b := b) n; rw [h] at this; cases this
theorem small_mul {b : Int} {n : Nat} (hb : b.natAbs ≤ 1) (hn : n ≤ 62) : ((n : Int) * b).natAbs < 2 ^ 6 := by
  have e : (2 : Nat) ^ 6 = 64 := by decide
  rw [e, Int.natAbs_mul]
  have : (n : Int).natAbs * b.natAbs ≤ (n : Int).natAbs * 1 := Nat.mul_le_mul_left _ hb
  have e2 : (n : Int).natAbs = n := rfl
  omega
theorem pby_bd {b : Int} (hb : b.natAbs ≤ 1) : ∀ n, n ≤ 62 → Bd (7 * n + 1) (pby b n)
  | 0, _ => fun c hc => by
    have : c = 1 := by simpa [pby] using hc
    subst this
    decide
  | n + 1, h => by
    have ih := pby_bd hb n (by omega)
    exact (mulr_bd (small_mul hb (by omega)) ih (Nat.two_pow_pos _)).mono (by omega)
theorem rng_get {lo : Int} {n i : Nat} {d : D} (h : (rngD lo n)[i]? = some d) : i < n ∧ d = .int (lo + (i : Int)) := by
  unfold rngD at h
  rw [List.getElem?_map] at h
  obtain ⟨j, h1, rfl⟩ := Option.map_eq_some_iff.mp h
  have h2 := (List.getElem?_eq_some_iff.mp h1).1
  rw [List.length_range] at h2
  rw [List.getElem?_range h2] at h1
  cases h1
  exact ⟨h2, rfl⟩
theorem off_snoc' {cs : Cs} {c : List D} : offL (cs ++ [some c]) cs.length 1 = cs ++ [none] := off_snoc
theorem product_by_eq {z b : Int} {n : Nat} {cs : Cs} (hz : z = (n : Int)) (hn : n ≤ 62) (hb : b.natAbs ≤ 1) (ok : okCs cs = true) : m_product_by [.dat (.int z), .dat (.int b)] cs = some (.fr ((pby b n).map .int), cs) := by
  refine em_eq ?_
  unfold m_product_by
  rw [em_fnM]
  unfold b_product_by
  simp only [es_sSeq, es_sOwn, ev_xLst, ea_cons, ea_nil, ev_xC, deg_dat, datAll_cons, datAll_nil, Option.map_some, wpd_some]
  refine ⟨by decide +kernel, ?_⟩
  simp only [nx_nx, es_sSeq, es_sFor, ei_rg1, ea_cons, ea_nil, ev_xVar]
  simp
  refine ⟨sm_of (by rw [hz]; have : n ≤ 2 ^ 60 := Nat.le_trans hn (by decide); simpa using this), ?_⟩
  refine el_inv (k := 0) (fun i ρ cs' => cs' = cs ++ [some ((pby b i).map .int)] ∧ ∃ v3, ρ = [some (.dat (.int z)), some (.dat (.int b)), some (.own cs.length), v3]) ⟨rfl, none, rfl⟩ ?_ ?_
  · rintro i d ρ cs' hd ⟨rfl, v3, rfl⟩
    rw [Nat.zero_add] at *
    obtain ⟨hi, rfl⟩ := rng_get hd
    have hi2 : i < n := by omega
    rw [Int.zero_add] at *
    have hbd := pby_bd hb i (by omega)
    have hc := small_mul hb (show i ≤ 62 by omega)
    have hm := prod_eq (l := pby b i) (c := (i : Int) * b) (B := 7 * i + 1) (m := 6) (cs := cs ++ [none]) (pby_ne i) (by rw [pby_len]; omega) hc hbd (by omega)
    have e2 : mulr ((i : Int) * b) 0 (pby b i) = pby b (i + 1) := rfl
    rw [e2] at hm
    have hcm : CMl (i : Int) b := cml 6 1 (Nat.lt_of_lt_of_le (show ((i : Nat) : Int).natAbs < 62 by omega) (by decide)) (Nat.lt_of_le_of_lt hb (by decide))
    generalize hI : ((i : Nat) : Int) = I at *
    simp only [eg_gNm]
    refine es_reo (k := cs.length) rfl (Nat.le_refl _) ?_
    refine ev_bor (k := cs.length) (c := (pby b i).map .int) rfl last_get ?_
    rw [off_snoc]
    simp [hidR, inG, dMul_int hcm]
    refine ⟨by decide +kernel, ?_⟩
    refine em_of hm ?_
    refine ⟨noLs_ints _, by rw [okCs_app, ok]; rfl, by rw [okCs_app, ok]; show (true && (noLs _ && true)) = true; rw [noLs_ints]; rfl, _, rfl, ?_⟩
    rw [back_snoc]
    refine ⟨by simp, ⟨by simp, rfl⟩, ⟨_, rfl⟩⟩
  · rintro ρ cs' ⟨rfl, v3, rfl⟩
    rw [rng_len, show 0 + z.toNat = n by omega]
    simp
theorem many_eq {z : Int} {cs : Cs} (h : 0 ≤ z) : m_check_many [.dat (.int z)] cs = some (.dat .none, cs) := by
  refine em_eq ?_
  unfold m_check_many
  rw [em_fnM]
  unfold b_check_many
  simp
  refine em_of count_eq ?_
  simp [h]
theorem falling_eq {z : Int} {n : Nat} {cs : Cs} (hz : z = (n : Int)) (hn : n ≤ 62) (ok : okCs cs = true) : m_falling_poly [.dat (.int z)] cs = some (.fr ((pby (-1) n).map .int), cs) := by
  refine em_eq ?_
  unfold m_falling_poly
  rw [em_fnM]
  unfold b_falling_poly
  simp
  refine em_of (many_eq (by omega)) ?_
  simp [dNeg_int]
  refine em_of (product_by_eq hz hn (by decide) ok) ?_
  simp
theorem rising_eq {z : Int} {n : Nat} {cs : Cs} (hz : z = (n : Int)) (hn : n ≤ 62) (ok : okCs cs = true) : m_rising_poly [.dat (.int z)] cs = some (.fr ((pby 1 n).map .int), cs) := by
  refine em_eq ?_
  unfold m_rising_poly
  rw [em_fnM]
  unfold b_rising_poly
  simp
  refine em_of (many_eq (by omega)) ?_
  refine em_of (product_by_eq hz hn (by decide) ok) ?_
  simp
end My
namespace My
open PySem PySem.Spec PyProof.Rows L2 DL
/-! QG: differences, parts of binomials -/
def dF : D → D
  | .tuple [.int a, .int b] => .int (b - a)
  | d => d
theorem zip_dif : ∀ l : List Int, (zipD (l.map .int) (l.tail.map .int)).map dF = (difR l).map .int
  | [] => rfl
  | [a] => rfl
  | a :: b :: r => by
    have ih := zip_dif (b :: r)
    show dF (.tuple [.int a, .int b]) :: (zipD ((b :: r).map .int) (r.map .int)).map dF = _
    have ih' : (zipD ((b :: r).map .int) (r.map .int)).map dF = (difR (b :: r)).map .int := ih
    rw [ih']
    rfl
theorem zip_mem : ∀ {l m : List Int} {d : D}, d ∈ zipD (l.map .int) (m.map .int) → ∃ a b, d = .tuple [.int a, .int b]
  | [], m, d, h => by cases m <;> cases h
  | a :: l, [], d, h => by cases h
  | a :: l, b :: m, d, h => by
    rcases List.mem_cons.mp (show d ∈ .tuple [.int a, .int b] :: zipD (l.map .int) (m.map .int) from h) with rfl | h
    · exact ⟨a, b, rfl⟩
    · exact zip_mem h
def muD (ρ : Rho) (_ : Cs) : Nat := match ρ with
  | [_, _, some (.dat (.list ds)), _, _] => ds.length
  | _ => 0
theorem slice1 {l : List Int} : dSl (iL l) (some 1) none = some (.fr (l.tail.map .int)) := by
  show some (Rv.fr (DL.cutD _ _ _)) = _
  cases l with
  | nil => rfl
  | cons a r =>
    have := cutD_from (ds := (a :: r).map PyData.int) (r := 1) (by simp)
    have e : ((1 : Nat) : Int) = 1 := rfl
    rw [e] at this
    rw [this]
    simp
theorem differences_eq {l : List Int} {cs : Cs} (hl : l.length ≤ 1000) : m_differences_at_0 [.dat (iL l)] cs = some (.fr ((difN l.length l).map .int), cs) := by
  have k1000 : 1000 ≤ sizeLine := by decide +kernel
  refine em_eq ?_
  unfold m_differences_at_0
  rw [em_fnM]
  unfold b_differences_at_0
  simp [dList]
  refine es_sWh (fun ρ c => ∃ (dn cur : List Int) (v3 v4 : Option Rv), c = cs ++ [some (dn.map .int)] ∧ ρ = [some (.dat (iL l)), some (.own cs.length), some (.dat (iL cur)), v3, v4] ∧ dn ++ difN cur.length cur = difN l.length l ∧ dn.length + cur.length ≤ 1000) muD ⟨[], l, none, none, rfl, rfl, rfl, by simpa using hl⟩ ?_
  rintro ρ c ⟨dn, cur, v3, v4, rfl, rfl, he, hz⟩
  cases cur with
  | nil =>
    simp only [et_mTB, ev_mB, ev_xVar, ev_xLst, ea_nil, datAll_nil, wpd_some]
    simp [ne_nilI]
    have : dn = difN l.length l := by simpa [difN] using he
    rw [← this]
  | cons a r =>
    simp only [et_mTB, ev_mB, ev_xVar, ev_xLst, ea_nil, datAll_nil, wpd_some]
    simp [ne_nilI]
    have hix : dIx (iL (a :: r)) (.int 0) = some (.dat (.int a)) := by
      have := ix_int (l := a :: r) (r := 0) (by simp)
      simpa using this
    rw [hix, slice1]
    simp at hz
    simp
    refine ⟨by omega, ?_⟩
    have ez := zip_dif (a :: r)
    have ez2 : (a :: r).tail = r := rfl
    rw [ez2] at ez
    refine ec_pure (fun _ => true) dF (fun d hd cs' => ?_) (by rw [zipD_len]; simp; omega) ?_
    · obtain ⟨x, y, rfl⟩ := zip_mem (l := a :: r) (m := r) hd
      simp [wipeR, dSub_int, dF]
    · rw [List.nil_append, List.filter_eq_self.mpr (fun _ _ => rfl)]
      have hlen : (difR (a :: r)).length = r.length := by rw [difR_len]; simp
      refine ⟨⟨dn ++ [a], by simp, difR (a :: r), ez, ?_, ?_⟩, ?_⟩
      · rw [hlen, ← he]
        simp [difN]
      · rw [hlen]
        simp
        omega
      · have : (zipD (PyData.int a :: r.map .int) (r.map .int)).length = r.length := by rw [zipD_len]; simp
        simp [muD, this]
theorem difR_bd {B : Nat} : ∀ {l : List Int}, Bd B l → Bd (B + 1) (difR l)
  | [], _ => nofun
  | [_], _ => nofun
  | a :: b :: r, h => fun c hc => by
    rcases List.mem_cons.mp (show c ∈ (b - a) :: difR (b :: r) from hc) with rfl | hc
    · have h1 := h a (List.mem_cons_self ..)
      have h2 := h b (List.mem_cons_of_mem _ (List.mem_cons_self ..))
      rw [Nat.pow_succ]
      omega
    · exact difR_bd (fun d hd => h d (List.mem_cons_of_mem _ hd)) c hc
theorem difN_bd : ∀ (n : Nat) {B : Nat} {l : List Int}, Bd B l → Bd (B + n) (difN n l)
  | 0, _, _, _ => nofun
  | n + 1, B, [], _ => nofun
  | n + 1, B, a :: r, h => fun c hc => by
    rcases List.mem_cons.mp (show c ∈ a :: difN n (difR (a :: r)) from hc) with rfl | hc
    · exact pw_le (h _ (List.mem_cons_self ..)) (by omega)
    · exact pw_le (difN_bd n (difR_bd h) c hc) (by omega)
theorem toBin_dif (p : List Int) : difN p.length ((List.range p.length).map fun i : Nat => hw (i : Int) p) = toBin p := by
  have h := vals_difN (toBin p)
  rw [toBin_len] at h
  have e : vals (toBin p) 0 p.length = (List.range p.length).map fun i : Nat => hw (i : Int) p := by
    unfold vals
    rw [List.range_eq_range']
    exact List.map_congr_left fun i _ => toBin_bs p
  rw [e] at h
  exact h
theorem toBin_bd {B : Nat} {p : List Int} (h : Bd B p) (hl : p.length ≤ 60) : Bd (B + 8 * p.length) (toBin p) := by
  rw [← toBin_dif]
  refine (difN_bd p.length (B := B + 7 * p.length) (fun c hc => ?_)).mono (by omega)
  obtain ⟨i, hi, rfl⟩ := List.mem_map.mp hc
  have hi2 : i < p.length := List.mem_range.mp hi
  exact hw_bd (m := 6) (by
    have : (2 : Nat) ^ 6 = 64 := by decide
    have e : ((i : Nat) : Int).natAbs = i := rfl
    omega) h
theorem parts_eq {p : List Int} {B : Nat} {cs : Cs} (hb : Bd B p) (hB : B ≤ 1000) (hl : p.length ≤ 60) (n : NF p) : m_binomial_parts [.dat (iL p)] cs = some (.fr ((toBin p).map .int), cs) := by
  have k1000 : 1000 ≤ sizeLine := by decide +kernel
  refine em_eq ?_
  unfold m_binomial_parts
  rw [em_fnM]
  unfold b_binomial_parts
  simp
  refine em_of (check_eq (by omega) n) ?_
  simp [len_eq]
  refine ⟨sm_of (by have : p.length ≤ 2 ^ 60 := Nat.le_trans hl (by decide); simpa using this), ?_⟩
  refine ec_pure (fun _ => true) (fun d => match d with
    | .int i => .int (hw i p)
    | d => d) (fun d hd cs' => ?_) (by rw [rng_len]; simp; omega) ?_
  · obtain ⟨i, hi, rfl⟩ := rng_mem hd
    have hi2 : i < p.length := by omega
    have hx : ((0 : Int) + (i : Int)).natAbs < 2 ^ 6 := by
      have : (2 : Nat) ^ 6 = 64 := by decide
      omega
    generalize (0 : Int) + (i : Int) = I at *
    simp [wipeR]
    refine em_of (worth_eq hx hb (by omega)) ?_
    simp
  · rw [List.filter_eq_self.mpr (fun _ _ => rfl)]
    have e2 : ([] : List D) ++ (rngD 0 p.length).map (fun d => match d with
        | PyData.int i => PyData.int (hw i p)
        | d => d) = ((List.range p.length).map fun i : Nat => hw (i : Int) p).map PyData.int := by
      unfold rngD
      rw [List.nil_append, List.map_map, List.map_map]
      exact List.map_congr_left fun i _ => by simp
    rw [e2]
    have hd := differences_eq (l := (List.range p.length).map fun i : Nat => hw (i : Int) p) (cs := cs) (by simp; omega)
    rw [List.length_map, List.length_range, toBin_dif] at hd
    refine em_of hd ?_
    refine em_of (cutp_eq (by rw [toBin_len]; omega)) ?_
    rw [cut_id (toBin_nf p n)]
    simp
end My
namespace My
open PySem PySem.Spec PyProof.Rows L2 DL
/-! QH: made of binomials -/
theorem max_eq {i : Int} : dMax2 [.int 1, .int i] = some (di (max 1 i)) := by
  show some (di (if i > 1 then i else 1)) = _
  rw [show (if i > 1 then i else 1) = max 1 i by split <;> omega]
theorem st_plen : ∀ (i : Nat) (l : List Int), (stOf (l.take i)).p ≠ []
  | 0, l => by rw [List.take_zero]; show [(1 : Int)] ≠ []; simp
  | i + 1, l => by
    cases q : l[i]? with
    | none =>
      have e : l.take (i + 1) = l.take i := by rw [List.take_add_one, q]; simp
      rw [e]
      exact st_plen i l
    | some c =>
      rw [stOf_take q]
      intro h
      have h2 := mulr_len (c := 0 - (i : Int)) (stOf (l.take i)).p 0
      have h3 : mulr (0 - (i : Int)) 0 (stOf (l.take i)).p = [] := h
      rw [h3] at h2
      simp at h2
theorem ev_eq' {f : ME} {ρ : Rho} {cs cs' : Cs} {r : Rv} (h : Ev f ρ cs fun r' c => r' = r ∧ c = cs') : f ρ cs = some (r, cs') := by
  obtain ⟨a, c, e, rfl, rfl⟩ := wpo_iff.mp h
  exact e
theorem mob_eq {l : List Int} {B : Nat} {cs : Cs} (hb : Bd B l) (hB : B ≤ 1000) (hl : l.length ≤ 60) (ok : okCs cs = true) : m_made_of_binomials [.dat (iL l)] cs = some (.ft (.tuple [iL (mobF l), .int (mobB l)]), cs) := by
  refine em_eq ?_
  unfold m_made_of_binomials
  rw [em_fnM]
  unfold b_made_of_binomials
  simp only [es_sSeq, es_sPar3, ea_dat, ea_nil, ev_xLst, ev_xC, ea_cons, datAll_nil, datAll_cons, wpd_some, deg_dat, Option.map_some, datOf_fr, datOf_dat, three_ok]
  refine ⟨Nat.zero_le _, by decide +kernel, ?_⟩
  simp only [nx_nx, es_sSeq, es_sFor, ei_en, ea_cons, ea_nil, ev_xVar]
  simp
  refine el_inv (k := 0) (fun i ρ cs' => cs' = cs ∧ ∃ (b : Int) (v4 v5 v6 : Option Rv), b = (stOf (l.take i)).b ∧ ρ = [some (.dat (iL l)), some (.dat (iL (stOf (l.take i)).f)), some (di b), some (.dat (iL (stOf (l.take i)).p)), v4, v5, v6]) ⟨rfl, 1, none, none, none, rfl, rfl⟩ ?_ ?_
  · rintro i d ρ cs' hd ⟨rfl, b, v4, v5, v6, hbb, rfl⟩
    rw [Nat.zero_add] at *
    obtain ⟨c, hc, rfl⟩ := enum_get hd
    rw [Nat.zero_add] at *
    have hi : i < l.length := (List.getElem?_eq_some_iff.mp hc).1
    obtain ⟨b1, b2, b3, b4, b5⟩ := st_bd (B := B) i hb hl
    have hne := st_plen i l
    have hcb := hb c (List.mem_of_getElem? hc)
    rw [stOf_take hc]
    generalize stOf (l.take i) = s at *
    have hm : (max 1 (i : Int)).natAbs < 2 ^ 6 := by
      have : (2 : Nat) ^ 6 = 64 := by decide
      omega
    have hm2 : (0 - (i : Int)).natAbs < 2 ^ 6 := by
      have : (2 : Nat) ^ 6 = 64 := by decide
      omega
    unfold st1
    generalize ((i : Nat) : Int) = I at *
    have e1 := scaled_eq (l := s.f) (n := max 1 I) (cs := cs') hm b1 (by omega) (by omega)
    have e2 := scaled_eq (l := s.p) (n := c) (cs := cs') hcb b3 (by omega) (by omega)
    have sl : ∀ (n : Int) (l : List Int), (scl n l).length ≤ l.length := fun n l => by unfold scl; split <;> simp
    have sl1 := sl (max 1 I) s.f
    have sl2 := sl c s.p
    have e3 := sum_eq (one := scl (max 1 I) s.f) (other := scl c s.p) (cs := cs') (by omega) (by omega)
    have e4 := prod_eq (l := s.p) (c := 0 - I) (cs := cs') hne (by omega) hm2 b3 (by omega)
    have hcm : CMl b (max 1 I) := cml (6 * i + 1) 6 (by rw [hbb]; exact b2) hm (by omega)
    rw [Int.zero_sub] at e4
    simp [max_eq]
    refine em_of e1 ?_
    refine em_of e2 ?_
    refine em_of e3 ?_
    simp [dMul_int hcm, dSub_int]
    refine ⟨by decide +kernel, ?_⟩
    refine em_of e4 ?_
    simp [hbb]
  · rintro ρ cs' ⟨rfl, b, v4, v5, v6, hbb, rfl⟩
    rw [enumD_len, List.length_map, Nat.zero_add, List.take_length] at *
    obtain ⟨b1, b2, b3, b4, b5⟩ := st_bd (B := B) l.length hb hl
    rw [List.take_length] at b1 b2 b3 b4 b5
    have so := stOk_all l
    have hb1 : 1 ≤ b := by rw [hbb, so.b]; exact fac_pos _
    have hz : b.natAbs < 2 ^ 8000 := by rw [hbb]; exact pw_le b2 (by omega)
    have e1 := lesser_eq (b := b) (l := (stOf l).f) (cs := cs') hb1 hz (by omega) ok
    have eB : b / ((Nat.gcd b.natAbs (gcdL 0 (stOf l).f) : Nat) : Int) = mobB l := by rw [hbb]; rfl
    have eF : (stOf l).f.map (· / ((Nat.gcd b.natAbs (gcdL 0 (stOf l).f) : Nat) : Int)) = mobF l := by rw [hbb]; rfl
    rw [eB, eF] at e1
    rw [nx_nx]
    refine es_pick (c := (mobF l).map .int) (x := .int (mobB l)) (r := []) (cs1 := cs') ?_ rfl (noLs_ints _) (by simp) (by simp) ?_
    · refine ev_eq' ?_
      simp
      refine ⟨by decide +kernel, ?_⟩
      refine em_of e1 ?_
      exact ⟨rfl, rfl⟩
    · simp
end My
namespace My
open PySem PySem.Spec PyProof.Rows L2 DL
/-! QI: of parts, sums; the law's own small functions -/
theorem ofparts_eq {l : List Int} {B : Nat} {cs : Cs} (hb : Bd B l) (hB : B ≤ 1000) (hl : l.length ≤ 60) (ok : okCs cs = true) : m_of_binomial_parts [.dat (iL l)] cs = some (.ft (.tuple [iL (mobF l), .int (mobB l)]), cs) := by
  have k1000 : 1000 ≤ sizeLine := by decide +kernel
  refine em_eq ?_
  unfold m_of_binomial_parts
  rw [em_fnM]
  unfold b_of_binomial_parts
  simp [isi_list]
  refine ec_pure (fun _ => true) (fun x => .bool true) (fun x hx cs' => ?_) (by simp; omega) ?_
  · obtain ⟨c, _, rfl⟩ := wrapI hx
    simp [wipeR]
    refine em_of is_whole_eq ?_
    simp [wholeB]
  · rw [List.nil_append, List.filter_eq_self.mpr (fun _ _ => rfl), all_true]
    simp
    refine em_of (mob_eq hb hB hl ok) ?_
    simp
theorem summed_eq {p : List Int} {B : Nat} {cs : Cs} (hb : Bd B p) (hB : B ≤ 500) (hl : p.length ≤ 59) (n : NF p) (ok : okCs cs = true) : m_summed_poly [.dat (iL p)] cs = some (.ft (.tuple [iL (mobF (0 :: toBin p)), .int (mobB (0 :: toBin p))]), cs) := by
  have k1000 : 1000 ≤ sizeLine := by decide +kernel
  have hbd : Bd (B + 8 * p.length) (0 :: toBin p) := fun c hc => by
    rcases List.mem_cons.mp hc with rfl | hc
    · exact Nat.two_pow_pos _
    · exact toBin_bd hb (by omega) c hc
  refine em_eq ?_
  unfold m_summed_poly
  rw [em_fnM]
  unfold b_summed_poly
  simp
  refine ⟨by omega, ?_⟩
  refine em_of (parts_eq hb (by omega) (by omega) n) ?_
  simp
  rw [addL (by simp [toBin_len]; omega)]
  simp
  refine em_of (mob_eq (l := 0 :: toBin p) hbd (by omega) (by simp [toBin_len]; omega) ok) ?_
  simp
theorem lwhole_eq {d : D} {cs : Cs} : m__law_is_whole [.dat d] cs = some (db (wholeB d), cs) := by
  refine em_eq ?_
  unfold m__law_is_whole
  rw [em_fnM]
  unfold b__law_is_whole
  cases d <;> simp [isi_int, isi_bool, dNot, wholeB]
theorem lpoly_eq {l : List Int} {cs : Cs} (hz : l.length ≤ 1000) : m__law_is_poly [.dat (iL l)] cs = some (db (decide (NF l)), cs) := by
  have k1000 : 1000 ≤ sizeLine := by decide +kernel
  refine em_eq ?_
  unfold m__law_is_poly
  rw [em_fnM]
  unfold b__law_is_poly
  simp [isi_list]
  refine ec_pure (fun _ => false) (fun x => x) (fun x hx cs' => ?_) (by simp; omega) ?_
  · obtain ⟨c, _, rfl⟩ := wrapI hx
    simp [wipeR]
    refine em_of lwhole_eq ?_
    simp [wholeB]
  · rw [List.nil_append, List.filter_eq_nil_iff.mpr (fun _ _ => by simp)]
    simp
    rw [show dNe (.list []) (.list []) = some (db false) from ne_nilI []]
    simp [eq_nilI, dNeg_int]
    rcases last_cases l with rfl | ⟨r, x, rfl⟩
    · simp [NF]
    · have e : (r ++ [x]).isEmpty = false := by cases r <;> rfl
      rw [ix_lastI (l := r) (x := x)]
      simp [fdNe_int, nf_last]
      by_cases hx : x = 0 <;> simp [hx]
theorem lcut_eq {l : List Int} {cs : Cs} (hl : l.length ≤ 1000) : m__law_cut [.dat (iL l)] cs = some (.fr ((cutI l).map .int), cs) := by
  suffices h : Em m__law_cut [.dat (iL l)] cs fun z c => c = cs ∧ z = .fr ((cutI l).map .int) by
    obtain ⟨z, c, e, rfl, rfl⟩ := wpo_iff.mp h
    exact e
  unfold m__law_cut
  rw [em_fnM]
  unfold b__law_cut
  simp [len_eq]
  refine es_sWh (fun ρ c => c = cs ∧ ∃ r : Nat, r ≤ l.length ∧ ρ = [some (.dat (iL l)), some (di (r : Int))] ∧ ∀ c ∈ l.drop r, c = 0) muC ⟨rfl, l.length, Nat.le_refl _, rfl, by simp⟩ ?_
  rintro ρ c ⟨rfl, r, hr, rfl, hz⟩
  have stop : (r = 0 ∨ ∃ h : r - 1 < l.length, l[r - 1] ≠ 0) → Es (sRet (mCall dList (aCons (mSl (xVar 0) oNone (oSome (xVar 1))) aNil))) c.length [some (.dat (iL l)), some (di (r : Int))] c (DL.Fin c.length fun z c' => c' = c ∧ z = .fr ((cutI l).map .int)) := fun hn => by
    have e : dSl (iL l) none (some (r : Int)) = some (.fr ((l.map .int).take r)) := by
      show some (Rv.fr (DL.cutD _ _ _)) = _
      rw [cutD_to (by simpa using hr)]
    simp [e, dList]
    rw [← cut_take hr hz hn, List.map_take]
  rcases Nat.eq_zero_or_pos r with h0 | h0
  · subst h0
    simp [dGt_int]
    simpa using stop (.inl rfl)
  · have e1 : (r : Int) - 1 = ((r - 1 : Nat) : Int) := by omega
    have hlt : r - 1 < l.length := by omega
    have gt : (0 : Int) < (r : Int) := by omega
    simp only [et_mTAnd, et_mTB, ev_mB, ev_xVar, ev_xC]
    simp [dGt_int, h0, dSub_int]
    rw [e1, ix_int hlt]
    by_cases hx : l[r - 1] = 0
    · simp [fdEq_int, hx, dSub_int, muC]
      refine ⟨⟨r - 1, by omega, by omega, ?_⟩, by omega⟩
      intro c hc
      have : l.drop (r - 1) = l[r - 1] :: l.drop r := by
        rw [List.drop_eq_getElem_cons hlt, show r - 1 + 1 = r by omega]
      rw [this] at hc
      rcases List.mem_cons.mp hc with q | q
      · rw [q, hx]
      · exact hz c q
    · simp [fdEq_int, hx]
      simpa using stop (.inr ⟨hlt, hx⟩)
theorem ldiv_eq {a b : Int} {cs : Cs} : m__law_divisor [.dat (.int a), .dat (.int b)] cs = some (di (Int.gcd a b), cs) := by
  refine em_eq ?_
  unfold m__law_divisor
  rw [em_fnM]
  unfold b__law_divisor
  simp [dAbs_int]
  refine es_sWh (fun ρ c => ∃ x y : Nat, ρ = [some (di x), some (di y)] ∧ c = cs ∧ Nat.gcd x y = Int.gcd a b) muE ⟨a.natAbs, b.natAbs, rfl, rfl, rfl⟩ ?_
  rintro ρ c ⟨x, y, rfl, rfl, h⟩
  by_cases hy : 0 < y
  · have hy' : (y : Int) ≠ 0 := by omega
    have e : (x : Int).fmod y = ((x % y : Nat) : Int) := by rw [Int.fmod_eq_emod_of_nonneg _ (by omega)]; rfl
    simp [dGt_int, hy, dMod_int hy', e, muE, dInt]
    refine ⟨⟨y, x % y, ⟨rfl, by omega⟩, ?_⟩, ?_⟩
    · rw [← h, Nat.gcd_comm x y, Nat.gcd_rec y x, Nat.gcd_comm]
    · have := Nat.mod_lt x hy
      omega
  · have : y = 0 := by omega
    subst this
    simp [dGt_int]
    rw [← h]
    simp
theorem ldiv_nat {a b : Int} {g : Nat} {cs : Cs} (ha : a = (g : Int)) : m__law_divisor [.dat (.int a), .dat (.int b)] cs = some (di ((Nat.gcd g b.natAbs : Nat) : Int), cs) := by
  rw [ldiv_eq, ha]
  rfl
theorem lcont_eq {l : List Int} {cs : Cs} : m__law_content [.dat (iL l)] cs = some (di ((gcdL 0 l : Nat) : Int), cs) := by
  suffices h : ∀ w : Int, w = ((gcdL 0 l : Nat) : Int) → m__law_content [.dat (iL l)] cs = some (di w, cs) from h _ rfl
  intro w hw
  refine em_eq ?_
  unfold m__law_content
  rw [em_fnM]
  unfold b__law_content
  simp
  refine el_inv (k := 0) (fun i ρ cs' => cs' = cs ∧ ∃ (G : Int) (g : Nat) (v2 : Option Rv), ρ = [some (.dat (iL l)), some (di G), v2] ∧ G = (g : Int) ∧ gcdL g (l.drop i) = gcdL 0 l) ⟨rfl, 0, 0, none, rfl, rfl, rfl⟩ ?_ ?_
  · rintro i d ρ cs' hd ⟨rfl, G, g, v2, rfl, hG, e⟩
    rw [Nat.zero_add] at *
    rw [List.getElem?_map] at hd
    obtain ⟨c, hc, rfl⟩ := Option.map_eq_some_iff.mp hd
    have hlt := (List.getElem?_eq_some_iff.mp hc).1
    have hc' : l[i] = c := (List.getElem?_eq_some_iff.mp hc).2
    rw [List.drop_eq_getElem_cons hlt, hc'] at e
    have e' : gcdL (Nat.gcd g c.natAbs) (l.drop (i + 1)) = gcdL 0 l := e
    have hx := ldiv_nat (b := c) (cs := cs') hG
    generalize hN : Nat.gcd g c.natAbs = N at *
    have : ∃ M : Int, M = (N : Int) := ⟨_, rfl⟩
    obtain ⟨M, hM⟩ := this
    rw [← hM] at hx
    simp
    refine em_of hx ?_
    simp
    exact ⟨N, hM, e'⟩
  · rintro ρ cs' ⟨rfl, G, g, v2, rfl, hG, e⟩
    rw [show (0 + (l.map PyData.int).length) = l.length by simp, List.drop_length] at e
    have e' : g = gcdL 0 l := e
    simp
    rw [hw, hG, e']
theorem ff_bd {x s : Int} {m : Nat} (hx : ∀ i : Nat, i < 64 → (x + i * s).natAbs < 2 ^ m) : ∀ k, k ≤ 64 → (ff x s k).natAbs < 2 ^ (m * k + 1)
  | 0, _ => by show (1 : Int).natAbs < 2 ^ (m * 0 + 1); rw [Nat.mul_zero]; decide
  | k + 1, h => by
    have := pw_mul (ff_bd hx k (by omega)) (hx k (by omega))
    show (ff x s k * (x + k * s)).natAbs < _
    rw [show m * (k + 1) + 1 = m * k + 1 + m by rw [Nat.mul_add]; omega]
    exact this
theorem lbin_eq {z w : Int} {n k : Nat} {cs : Cs} (hz : z = (n : Int)) (hw : w = (k : Int)) (hn : n ≤ 63) (hk : k ≤ 63) : m__law_binomial [.dat (.int z), .dat (.int w)] cs = some (di (bn n k), cs) := by
  have e128 : (2 : Nat) ^ 7 = 128 := by decide
  have b1 : ∀ j, j ≤ 63 → (ff z (-1) j).natAbs < 2 ^ (7 * j + 1) := fun j hj => ff_bd (m := 7) (fun i hi => by rw [hz]; omega) j (by omega)
  have b2 : ∀ j, j ≤ 63 → (ff 1 1 j).natAbs < 2 ^ (7 * j + 1) := fun j hj => ff_bd (m := 7) (fun i hi => by omega) j (by omega)
  refine em_eq ?_
  unfold m__law_binomial
  rw [em_fnM]
  unfold b__law_binomial
  have hs : sm62 w := sm_of (by rw [hw]; have : k ≤ 2 ^ 60 := Nat.le_trans hk (by decide); simpa using this)
  simp [hs]
  refine el_inv (k := 0) (fun i ρ cs' => cs' = cs ∧ ∃ v3, ρ = [some (.dat (.int z)), some (.dat (.int w)), some (di (ff z (-1) i)), v3, none]) ⟨rfl, none, rfl⟩ ?_ ?_
  · rintro i d ρ cs' hd ⟨rfl, v3, rfl⟩
    obtain ⟨hi, rfl⟩ := rng_get hd
    rw [Nat.zero_add] at *
    rw [Int.zero_add]
    have hc : CMl (ff z (-1) i) (z - (i : Int)) := cml (7 * i + 1) 7 (b1 i (by omega)) (by omega) (by omega)
    have e : ff z (-1) (i + 1) = ff z (-1) i * (z - (i : Int)) := by
      show ff z (-1) i * (z + i * (-1)) = _
      rw [show z + (i : Int) * (-1) = z - i by omega]
    rw [e]
    generalize hI : ((i : Nat) : Int) = I at *
    simp [dSub_int, dMul_int hc]
  · rintro ρ cs' ⟨rfl, v3, rfl⟩
    rw [Nat.zero_add, rng_len, show w.toNat = k by omega]
    simp [hs]
    refine el_inv (k := 0) (fun i ρ cs'' => cs'' = cs' ∧ ∃ v3, ρ = [some (.dat (.int z)), some (.dat (.int w)), some (di (ff z (-1) k)), v3, some (di (ff 1 1 i))]) ⟨rfl, v3, rfl⟩ ?_ ?_
    · rintro i d ρ cs'' hd ⟨rfl, v3, rfl⟩
      obtain ⟨hi, rfl⟩ := rng_get hd
      rw [Nat.zero_add] at *
      rw [Int.zero_add]
      have hc : CMl (ff 1 1 i) ((i : Int) + 1) := cml (7 * i + 1) 7 (b2 i (by omega)) (by omega) (by omega)
      have e : ff 1 1 (i + 1) = ff 1 1 i * ((i : Int) + 1) := by
        show ff 1 1 i * (1 + i * 1) = _
        rw [show (1 : Int) + (i : Int) * 1 = i + 1 by omega]
      rw [e]
      generalize hI : ((i : Nat) : Int) = I at *
      simp [dAdd_int, dMul_int hc]
    · rintro ρ cs'' ⟨rfl, v3, rfl⟩
      rw [Nat.zero_add, rng_len, show w.toNat = k by omega]
      have hp := fac_pos k
      simp [dDiv_int (cdv (7 * k + 1) (b2 k hk) (by omega) (by omega)), fdiv_pos hp]
      rw [hz, bn_ff]
      exact Int.mul_ediv_cancel_left _ (by omega)
end My
namespace My
open PySem PySem.Spec PyProof.Rows L2 DL
/-! QJ: one with itself -/
def sameOk : Nat → D → Bool
  | _, .int _ => true
  | n + 1, .list ds => decide (ds.length ≤ sizeLine) && ds.all (sameOk n)
  | n + 1, .tuple ds => decide (ds.length ≤ sizeLine) && ds.all (sameOk n)
  | _, _ => false
theorem zip_self : ∀ {ds : List D} {d : D}, d ∈ zipD ds ds → ∃ x, x ∈ ds ∧ d = .tuple [x, x]
  | [], d, h => by cases h
  | x :: ds, d, h => by
    rcases List.mem_cons.mp (show d ∈ .tuple [x, x] :: zipD ds ds from h) with rfl | h
    · exact ⟨x, List.mem_cons_self .., rfl⟩
    · obtain ⟨y, h1, h2⟩ := zip_self h
      exact ⟨y, List.mem_cons_of_mem _ h1, h2⟩
theorem dEq_bool {a b : Bool} : dEq (.bool a) (.bool b) = some (db (a == b)) := by
  unfold dEq
  rw [if_pos ⟨rfl, rfl, by show min 0 0 ≤ 100; decide⟩]
  cases a <;> cases b <;> rfl
theorem dNe_bool {a b : Bool} : dNe (.bool a) (.bool b) = some (db (!(a == b))) := by
  unfold dNe
  rw [if_pos ⟨rfl, rfl, by show min 0 0 ≤ 100; decide⟩]
  cases a <;> cases b <;> rfl
theorem isT_list {ds : List D} : dIsiT ["list", "tuple"] (.list ds) = some (db true) := by
  have e : kitA "list" ["list", "tuple"] = some true := by decide +kernel
  show (kitA "list" ["list", "tuple"]).map db = _
  rw [e]
  rfl
theorem isT_tuple {ds : List D} : dIsiT ["list", "tuple"] (.tuple ds) = some (db true) := by
  have e : kitA "tuple" ["list", "tuple"] = some true := by decide +kernel
  show (kitA "tuple" ["list", "tuple"]).map db = _
  rw [e]
  rfl
theorem isT_int {i : Int} : dIsiT ["list", "tuple"] (.int i) = some (db false) := by
  have e : kitA "int" ["list", "tuple"] = some false := by decide +kernel
  show (kitA "int" ["list", "tuple"]).map db = _
  rw [e]
  rfl
theorem len_l {ds : List D} : dLen [.list ds] = some (di (ds.length : Int)) := rfl
theorem len_t {ds : List D} : dLen [.tuple ds] = some (di (ds.length : Int)) := rfl
theorem same_eq : ∀ (n : Nat) (d : D) (cs : Cs), sameOk n d = true → recM 5 b__law_same (n + 1) [.dat d, .dat d] cs = some (db true, cs)
  | n, d, cs, h => by
    refine em_eq ?_
    rw [em_rec, em_fnM]
    unfold b__law_same
    match n, d, h with
    | n + 1, .list ds, h =>
      obtain ⟨h1, h2⟩ := Bool.and_eq_true_iff.mp (show (decide (ds.length ≤ sizeLine) && ds.all (sameOk n)) = true from h)
      simp [isT_list, isi_list, isi_tuple, dEq_bool, len_l, fdEq_int]
      refine ec_pure (fun _ => true) (fun x => .bool true) (fun x hx cs' => ?_) (by rw [zipD_len]; simpa using h1) ?_
      · obtain ⟨y, hy, rfl⟩ := zip_self hx
        simp [wipeR]
        refine em_of (same_eq n y cs' (List.all_eq_true.mp h2 y hy)) ?_
        simp
      · rw [List.nil_append, List.filter_eq_self.mpr (fun _ _ => rfl), all_true]
        simp
    | n + 1, .tuple ds, h =>
      obtain ⟨h1, h2⟩ := Bool.and_eq_true_iff.mp (show (decide (ds.length ≤ sizeLine) && ds.all (sameOk n)) = true from h)
      simp [isT_tuple, isi_list, isi_tuple, dEq_bool, len_t, fdEq_int]
      refine ec_pure (fun _ => true) (fun x => .bool true) (fun x hx cs' => ?_) (by rw [zipD_len]; simpa using h1) ?_
      · obtain ⟨y, hy, rfl⟩ := zip_self hx
        simp [wipeR]
        refine em_of (same_eq n y cs' (List.all_eq_true.mp h2 y hy)) ?_
        simp
      · rw [List.nil_append, List.filter_eq_self.mpr (fun _ _ => rfl), all_true]
        simp
    | n, .int i, h =>
      simp [isT_int, isi_bool, isi_int, isi_str, dEq_bool, dNe_bool, fdEq_int, dIs, isD]
theorem lsame_eq {d : D} {cs : Cs} (h : sameOk 5 d = true) : m__law_same [.dat d, .dat d] cs = some (db true, cs) := same_eq 5 d cs h
theorem same_ints {l : List Int} (n : Nat) (h : l.length ≤ 1000) : sameOk (n + 1) (iL l) = true := by
  have k1000 : 1000 ≤ sizeLine := by decide +kernel
  show (decide ((l.map PyData.int).length ≤ sizeLine) && (l.map PyData.int).all (sameOk n)) = true
  rw [Bool.and_eq_true, decide_eq_true_iff]
  refine ⟨by simp; omega, List.all_eq_true.mpr fun d hd => ?_⟩
  obtain ⟨c, _, rfl⟩ := wrapI hd
  cases n <;> rfl
end My
namespace My
open PySem PySem.Spec PyProof.Rows L2 DL
/-! HM18: lists are marked in place -/
theorem isInt_iff {c : List D} (h : c.all isIntD = true) : ∃ l : List Int, c = l.map .int := by
  induction c with
  | nil => exact ⟨[], rfl⟩
  | cons d r ih =>
    rw [List.all_cons] at h
    obtain ⟨h1, h2⟩ := Bool.and_eq_true_iff.mp h
    obtain ⟨l, rfl⟩ := ih h2
    cases d with
    | int i => exact ⟨i :: l, rfl⟩
    | _ => cases h1
theorem back_off {cs : Cs} {k n : Nat} : backC (offL cs k n) cs k n = cs := by
  apply List.ext_getElem?
  intro i
  rw [back_get, off_get]
  cases z : inG k n i with
  | true =>
    rw [if_pos rfl, if_pos rfl]
    cases q : cs[i]? with
    | none => rfl
    | some x => cases x <;> rfl
  | false =>
    rw [if_neg (by decide), if_neg (by decide)]
theorem okCs_off {cs : Cs} {k n : Nat} (h : okCs cs = true) : okCs (offL cs k n) = true := by
  refine List.all_eq_true.mpr fun c hc => ?_
  obtain ⟨i, hi⟩ := List.getElem?_of_mem hc
  rw [off_get] at hi
  split at hi
  · cases q : cs[i]? with
    | none => rw [q] at hi; cases hi
    | some x => rw [q] at hi; cases hi; rfl
  · exact List.all_eq_true.mp h c (List.mem_of_getElem? hi)
theorem et_eq {t : MT} {ρ : Rho} {cs cs' : Cs} {b : Bool} (h : Et t ρ cs fun b' c => b' = b ∧ c = cs') : t ρ cs = some (b, cs') := by
  obtain ⟨a, c, e, rfl, rfl⟩ := wpo_iff.mp h
  exact e
theorem ev_eq {f : ME} {ρ : Rho} {cs cs' : Cs} {r : Rv} (h : Ev f ρ cs fun r' c => r' = r ∧ c = cs') : f ρ cs = some (r, cs') := by
  obtain ⟨a, c, e, rfl, rfl⟩ := wpo_iff.mp h
  exact e
theorem eqv_list_str {c : List D} {z : Str} (h : PyData.plainAll c = true) : dEq (.list c) (.str z) = some (db false) := by
  unfold dEq
  rw [if_pos ⟨h, rfl, Nat.le_trans (Nat.min_le_right _ _) (by show 0 ≤ 100; decide)⟩]
  rfl
theorem eqv_int_str {i : Int} {z : Str} : dEq (.int i) (.str z) = some (db false) := by
  unfold dEq
  rw [if_pos ⟨rfl, rfl, by show min 0 0 ≤ 100; decide⟩]
  rfl
theorem plainI' (l : List Int) : PyData.plainAll (l.map .int) = true := plain_all.mpr fun d hd => by
  obtain ⟨c, _, rfl⟩ := List.mem_map.mp hd
  rfl
theorem ix_lastD {r : List D} {x : D} : dIx (.list (r ++ [x])) (.int (-1)) = some (.dat x) := by
  show (atI (r ++ [x]) (-1)).map Rv.dat = _
  have e : ixN (r ++ [x]).length (-1) = some r.length := by
    unfold ixN
    simp
    omega
  unfold atI
  rw [e]
  simp
theorem last_casesD (ds : List D) : ds = [] ∨ ∃ r x, ds = r ++ [x] := by
  rcases List.eq_nil_or_concat ds with h | ⟨r, x, h⟩
  · exact .inl h
  · exact .inr ⟨r, x, by rw [h, List.concat_eq_append]⟩
/-- a number is marked -/
theorem mk_int : ∀ (n : Nat) (i : Int) (cs : Cs), recM 3 b__law_marked (n + 1) [.dat (.int i)] cs = some (db true, cs) := fun n i cs => by
  refine em_eq ?_
  rw [em_rec, em_fnM]
  unfold b__law_marked
  simp only [es_sSeq, es_sIf, es_sNil, es_sRet]
  refine et_bor_dat (d := .int i) rfl ?_
  simp [isi_list]
  refine ev_bor_dat (d := .int i) rfl ?_
  simp [isi_tuple, dNot]
theorem noLs_trues : ∀ n : Nat, noLs (List.replicate n (PyData.bool true)) = true
  | 0 => rfl
  | n + 1 => by
    rw [List.replicate_succ]
    unfold noLs
    rw [noLs_trues n]
    rfl
theorem kk1 : 1000 ≤ sizeLine := by decide +kernel
/-- a list of its own is marked -/
theorem mk_own {n : Nat} {k : Nat} {l : List Int} {cs : Cs} (hc : cs[k]? = some (some (l.map .int))) (hz : l.length + 1 < sizeLine) (ok : okCs cs = true) : recM 3 b__law_marked (n + 2) [.own k] cs = some (db true, cs.set k (some (l.map .int ++ [.str "marked"]))) := by
  have off := okCs_off (k := k) (n := 1) ok
  have hk : k < cs.length := (List.getElem?_eq_some_iff.mp hc).1
  have hR : ∀ (i : Int) (cs : Cs), recM 3 b__law_marked (n + 1) [.dat (.int i)] cs = some (db true, cs) := mk_int n
  refine em_eq ?_
  rw [em_rec, em_fnM]
  generalize recM 3 b__law_marked (n + 1) = R at *
  have ne : dNe (.list (l.map .int)) (.list []) = some (db (!(l.map PyData.int).isEmpty)) := dNe_nil (plainI' l)
  have fin : Es (sSeq (sSet 1 (mBor 0 (xComp (iSeq (xVar 0)) (gNm 2) mYes (mCallF 1 R (aCons (xVar 2) aNil)) [2])))
      (sSeq (sApp 0 (xC (.str "marked")))
      (sRet (mB dNotIn (xC (.bool false)) (xVar 1))))) cs.length [some (.own k), none, none] cs (Nx cs.length (sRet (mBor 0 (mOr (mU dNot (mU (dIsi "tuple") (xVar 0))) (mB dNotIn (xC (.bool false)) (xComp (iSeq (xVar 0)) (gNm 2) mYes (mCallF 1 R (aCons (xVar 2) aNil)) [2]))))) (DL.Fin cs.length fun r c => r = db true ∧ c = cs.set k (some (l.map .int ++ [.str "marked"])))) := by
    simp only [es_sSeq, es_sSet]
    refine ev_bor (i := 0) (k := k) (c := l.map .int) (ρ := [some (.own k), none, none]) rfl hc ?_
    simp [hidR, inG]
    refine ec_pure (fun _ => true) (fun x => .bool true) (fun x hx cs' => ?_) (by simp; omega) ?_
    · obtain ⟨c, _, rfl⟩ := List.mem_map.mp hx
      simp [wipeR]
      refine em_of (hR c cs') ?_
      simp
    · rw [List.nil_append, List.filter_eq_self.mpr (fun _ _ => rfl)]
      have e : (l.map PyData.int).map (fun _ => PyData.bool true) = List.replicate l.length (PyData.bool true) := by
        rw [List.map_const']
        simp
      rw [e]
      refine ⟨noLs_trues _, off, ok, ?_⟩
      rw [back_off]
      simp [hc]
      refine ⟨by omega, ?_⟩
      rw [notin_bools (l := List.replicate l.length (PyData.bool true)) (fun d hd => (List.mem_replicate.mp hd).2)]
      simp
      rw [List.take_of_length_le (by simp)]
  unfold b__law_marked
  simp only [es_sSeq, es_sIf]
  refine et_bor (i := 0) (k := k) (c := l.map .int) (ρ := [some (.own k), none, none]) rfl hc ?_
  simp only [et_mTru, ev_mU, ev_xVar]
  simp [hidR, inG, isi_list, off, back_off]
  refine et_bor (i := 0) (k := k) (c := l.map .int) (ρ := [some (.own k), none, none]) rfl hc ?_
  simp only [et_mTAnd, et_mTB, ev_mB, ev_xVar, ev_xLst, ea_nil, datAll_nil, wpd_some]
  simp [hidR, inG, ne]
  rcases last_casesD (l.map PyData.int) with h | ⟨r, x, h⟩
  · have h0 : l = [] := by simpa using h
    subst h0
    simp [off, back_off]
    simpa using fin
  · have hx : ∃ i, x = .int i := by
      have : x ∈ l.map PyData.int := by rw [h]; simp
      obtain ⟨c, _, rfl⟩ := List.mem_map.mp this
      exact ⟨c, rfl⟩
    obtain ⟨i, rfl⟩ := hx
    have h0 : l ≠ [] := by rintro rfl; simp at h
    have eix : dIx (.list (l.map .int)) (.int (-1)) = some (.dat (.int i)) := by rw [h]; exact ix_lastD
    simp [h0, dNeg_int, eix, eqv_int_str, off, back_off]
    simpa using fin

theorem cellsL_some : ∀ {cs : Cs} {ds : List D}, cellsL cs = some ds → allFl ds = true → cs = (flatsA ds).map some
  | [], ds, h, _ => by cases h; rfl
  | some c :: r, ds, h, f => by
    obtain ⟨l, h1, h2⟩ := Option.map_eq_some_iff.mp h
    subst h2
    have f' : (noLs c && allFl l) = true := f
    obtain ⟨f1, f2⟩ := Bool.and_eq_true_iff.mp f'
    have ih := cellsL_some h1 f2
    have e : flatsA (.list c :: l) = c :: flatsA l := by
      rw [flatsA]
      have : flats (.list c) = [c] := by unfold flats; rw [if_pos f1]
      rw [this]
      rfl
    rw [e, List.map_cons, ← ih]
  | none :: _, ds, h, _ => by cases h
theorem allFl_len : ∀ {ds : List D}, allFl ds = true → (flatsA ds).length = ds.length
  | [], _ => rfl
  | .list c :: l, f => by
    have f' : (noLs c && allFl l) = true := f
    obtain ⟨f1, f2⟩ := Bool.and_eq_true_iff.mp f'
    have e : flatsA (.list c :: l) = c :: flatsA l := by
      rw [flatsA]
      have : flats (.list c) = [c] := by unfold flats; rw [if_pos f1]
      rw [this]
      rfl
    rw [e, List.length_cons, allFl_len f2, List.length_cons]
  | .none :: _, f => by cases f
  | .bool _ :: _, f => by cases f
  | .int _ :: _, f => by cases f
  | .str _ :: _, f => by cases f
  | .tuple _ :: _, f => by cases f
  | .dict _ :: _, f => by cases f
theorem noLs_lists {ds : List D} (f : allFl ds = true) (h : ds ≠ []) : noLs ds = false := by
  cases ds with
  | nil => exact absurd rfl h
  | cons d r =>
    cases d with
    | list c =>
      unfold noLs
      rfl
    | _ => cases f
theorem flats_lists {ds : List D} (f : allFl ds = true) (h : ds ≠ []) : flats (.list ds) = flatsA ds := by
  unfold flats
  rw [if_neg (by rw [noLs_lists f h]; decide)]
theorem unMk_mem : ∀ {ds : List D}, unMk ds = true → ∀ d ∈ ds, ∃ l : List Int, d = .list (l.map .int) ∧ l.length + 1 < sizeLine
  | [], _, d, h => by cases h
  | .list c :: r, u, d, h => by
    unfold unMk at u
    rw [Bool.and_eq_true, Bool.and_eq_true, decide_eq_true_iff] at u
    obtain ⟨⟨u1, u2⟩, u3⟩ := u
    rcases List.mem_cons.mp h with rfl | h
    · obtain ⟨l, rfl⟩ := isInt_iff u1
      exact ⟨l, rfl, by simpa using u2⟩
    · exact unMk_mem u3 d h
  | .none :: _, u, _, _ => by cases u
  | .bool _ :: _, u, _, _ => by cases u
  | .int _ :: _, u, _, _ => by cases u
  | .str _ :: _, u, _, _ => by cases u
  | .tuple _ :: _, u, _, _ => by cases u
  | .dict _ :: _, u, _, _ => by cases u
theorem cellsL_cons {cs : Cs} {k n : Nat} {d : D} {ds : List D} (h : cellsOf cs k (n + 1) = some (d :: ds)) : ∃ c, d = .list c ∧ cs[k]? = some (some c) ∧ cellsOf cs (k + 1) n = some ds := by
  unfold cellsOf at h
  cases q : cs[k]? with
  | none =>
    have : cs.drop k = [] := List.drop_eq_nil_of_le (List.getElem?_eq_none_iff.mp q)
    rw [this] at h
    cases h
  | some x =>
    obtain ⟨hlt, hx⟩ := List.getElem?_eq_some_iff.mp q
    rw [List.drop_eq_getElem_cons hlt, hx, List.take_succ_cons] at h
    cases x with
    | none => cases h
    | some c =>
      obtain ⟨l, h1, h2⟩ := Option.map_eq_some_iff.mp h
      cases h2
      exact ⟨c, rfl, rfl, h1⟩
theorem cellsOf_set {cs : Cs} {k j n : Nat} {x : Option (List D)} (h : j < k) : cellsOf (cs.set j x) k n = cellsOf cs k n := by
  unfold cellsOf
  congr 2
  apply List.ext_getElem?
  intro i
  rw [List.getElem?_drop, List.getElem?_drop, List.getElem?_set_ne (by omega)]
theorem noLs_mark : ∀ l : List Int, noLs (l.map PyData.int ++ [.str "marked"]) = true
  | [] => rfl
  | c :: l => by
    show noLs (.int c :: (l.map PyData.int ++ [.str "marked"])) = true
    unfold noLs
    rw [noLs_mark l]
    rfl
theorem okCs_set {cs : Cs} {k : Nat} {c : List D} (h : okCs cs = true) (hc : noLs c = true) : okCs (cs.set k (some c)) = true := by
  refine List.all_eq_true.mpr fun x hx => ?_
  rcases List.mem_or_eq_of_mem_set hx with h1 | h1
  · exact List.all_eq_true.mp h x h1
  · subst h1
    exact hc
theorem mk_all {ρ : Rho} (h2 : 2 < ρ.length) : ∀ (n k : Nat) (cs : Cs) (ds acc : List D), cellsOf cs k n = some ds → ds.length = n → unMk ds = true → okCs cs = true → acc.length + n ≤ 1000 →
    compG 2 mke__law_marked ρ (List.range' k n) cs acc = some (acc ++ List.replicate n (.bool true), mkCs "marked" k n cs) ∧ okCs (mkCs "marked" k n cs) = true
  | 0, k, cs, ds, acc, _, _, _, ok, _ => ⟨by simp [compG, mkCs], ok⟩
  | n + 1, k, cs, ds, acc, hc, hl, hu, ok, hz => by
    cases ds with
    | nil => simp at hl
    | cons d ds =>
      obtain ⟨c, rfl, hk, hr⟩ := cellsL_cons hc
      obtain ⟨l, e1, e2⟩ := unMk_mem hu _ (List.mem_cons_self ..)
      have e1' : c = l.map .int := by injection e1
      subst e1'
      have hm := mk_own (n := 4) hk e2 ok
      have ok2 : okCs (cs.set k (some (l.map PyData.int ++ [.str "marked"]))) = true := okCs_set ok (noLs_mark l)
      have hu2 : unMk ds = true := by
        unfold unMk at hu
        exact (Bool.and_eq_true_iff.mp hu).2
      have sl : 1000 < sizeLine := by rw [sizeLine_eq]; decide
      obtain ⟨i1, i2⟩ := mk_all h2 n (k + 1) (cs.set k (some (l.map PyData.int ++ [.str "marked"]))) ds (acc ++ [.bool true]) (by rw [cellsOf_set (by omega)]; exact hr) (by simpa using hl) hu2 ok2 (by simp; omega)
      have ef : mke__law_marked (ρ.set 2 (some (.own k))) cs = some (db true, cs.set k (some (l.map PyData.int ++ [.str "marked"]))) := by
        refine ev_eq ?_
        unfold mke__law_marked
        simp [h2]
        refine em_of hm ?_
        exact ⟨rfl, rfl⟩
      have em : mkCs "marked" k (n + 1) cs = mkCs "marked" (k + 1) n (cs.set k (some (l.map PyData.int ++ [.str "marked"]))) := by
        show mkCs "marked" (k + 1) n (cs.set k (cs[k]?.join.map fun c => c ++ [.str "marked"])) = _
        rw [hk]
        rfl
      refine ⟨?_, by rw [em]; exact i2⟩
      rw [List.range'_succ, em]
      show (mke__law_marked (ρ.set 2 (some (.own k))) cs).bind _ = _
      rw [ef]
      show (if (noL (PyData.bool true) && okCs _ && decide (acc.length < sizeLine)) = true then _ else none) = _
      rw [if_pos (by rw [ok2]; simp [noL]; omega), i1, List.replicate_succ]
      simp
theorem hmo__law_marked : ∀ ds a n cs d cs', cellsOf cs a n = some ds → ds.length = n → 0 < n → a + n ≤ cs.length → allFl ds = true → okCs cs = true → mo__law_marked ds a n cs = some (d, cs') → MkB mkt1__law_marked mkt2__law_marked 2 1 mke__law_marked [2] mks5__law_marked 3 ds a n cs d cs' := by
  intro ds a n cs d cs' hc hl hn ha hf ok hm
  unfold mo__law_marked moMk at hm
  obtain ⟨hu0, hm2⟩ := ite_none hm
  obtain ⟨hu, hn2⟩ := Bool.and_eq_true_iff.mp hu0
  have hn2 : n ≤ 1000 := of_decide_eq_true hn2
  cases hm2
  have off := okCs_off (k := a) (n := n) ok
  have hne : ds ≠ [] := by rintro rfl; simp at hl; omega
  have hbor : borR (.gr (.list ds) a n) cs = some (.list ds, a, n) := by
    unfold borR
    exact if_pos ⟨by rw [flats_lists hf hne]; exact cellsL_some hc hf, by rw [flats_lists hf hne, allFl_len hf, hl]⟩
  have plain : PyData.plainAll ds = true := plain_all.mpr fun d hd => by
    obtain ⟨l, rfl, _⟩ := unMk_mem hu d hd
    show PyData.plainAll _ = true
    exact plainI' l
  have k1000 := kk1
  refine ⟨by decide, by decide, by decide, ?_, ?_, ?_⟩
  · refine et_eq ?_
    unfold mkt1__law_marked
    refine et_bor_of (i := 0) (k := a) (n := n) (r := .gr (.list ds) a n) (d := .list ds) rfl nofun hbor ?_
    simp only [et_mTru, ev_mU, ev_xVar]
    simp [hidR, inG, isi_list, off, back_off]
  · refine et_eq ?_
    unfold mkt2__law_marked
    refine et_bor_of (i := 0) (k := a) (n := n) (r := .gr (.list ds) a n) (d := .list ds) rfl nofun hbor ?_
    simp only [et_mTAnd, et_mTB, ev_mB, ev_xVar, ev_xLst, ea_nil, datAll_nil, wpd_some]
    simp [hidR, inG, dNe_nil plain, dNeg_int]
    have e0 : ds.isEmpty = false := by cases ds <;> simp at hne ⊢
    rcases last_casesD ds with h | ⟨r, x, h⟩
    · exact absurd h hne
    · have hx : x ∈ ds := by rw [h]; simp
      obtain ⟨l, rfl, _⟩ := unMk_mem hu x hx
      have eix : dIx (.list ds) (.int (-1)) = some (.dat (.list (l.map .int))) := by rw [h]; exact ix_lastD
      have e3 : dEq (.list (l.map .int)) (.str "marked") = some (db false) := eqv_list_str (plainI' l)
      simp [hne, eix, e3, off, back_off]
  · obtain ⟨i1, i2⟩ := mk_all (ρ := wipeR (some (.gr (.list ds) a n) :: List.replicate (3 - 1) none) [2]) (by simp [wipeR]) n a cs ds [] hc hl hu ok (by simp; omega)
    obtain ⟨m, rfl⟩ : ∃ m, n = m + 1 := ⟨n - 1, by omega⟩
    refine ⟨mkCs "marked" a (m + 1) cs, true, List.replicate m (.bool true), ?_, i2, noLs_trues m, ?_⟩
    · show (if (okCs cs && allFl ds && decide (ds.length = m + 1) && decide (0 < m + 1)) = true then (compG 2 mke__law_marked (wipeR _ [2]) (List.range' a (m + 1)) cs []).map _ else none) = _
      rw [if_pos (by rw [ok, hf, hl]; simp), i1, List.replicate_succ]
      rfl
    · have nt := notin_bools (l := .bool true :: List.replicate m (.bool true)) (fun d hd => by
        rw [← List.replicate_succ] at hd
        exact (List.mem_replicate.mp hd).2)
      show (mks5__law_marked cs.length [none, some (.dat (.list (.bool true :: List.replicate m (.bool true)))), none] (mkCs "marked" a (m + 1) cs)) = _
      have : Es mks5__law_marked cs.length [none, some (.dat (.list (.bool true :: List.replicate m (.bool true)))), none] (mkCs "marked" a (m + 1) cs) fun o => o = .rt (db true) (mkCs "marked" a (m + 1) cs) := by
        unfold mks5__law_marked
        simp only [es_sRet, ev_mB, ev_xC, ev_xVar]
        simp [nt]
      obtain ⟨o, e1, rfl⟩ := wpd_iff.mp this
      exact e1
end My
namespace My
open PySem PySem.Spec PyProof.Rows L2 DL
/-! QK: products are right -/
def mkL (l : List Int) : List D := l.map .int ++ [.str "marked"]
noncomputable def pBody : MS := (sSeq (sIf (mBorT 1 (mTOr (mTNot (mTru (mCallF 1 m__law_is_poly (aCons (xVar 1) aNil)))) (mTB (mB dNe (mCall dLen (aCons (xVar 1) aNil)) (mB dAdd (xVar 0) (xC (.int 1))))))) (sRet (xC (.bool false))) sNil)
  (sSeq (sFor (iRg2 (aCons (mB dSub (mB dSub (xC (.int 0)) (xVar 0)) (xC (.int 2))) (aCons (mB dAdd (xVar 0) (xC (.int 3))) aNil))) (gNm 3) (sSeq (sSet 4 (xC (.int 1)))
  (sSeq (sFor (iRg1 (aCons (xVar 0) aNil)) (gNm 5) (sSet 4 (mB dMul (xVar 4) (mB dAdd (xVar 3) (mB dMul (xVar 2) (xVar 5))))))
  (sIf (mBorT 1 (mTB (mB dNe (mCallF 2 m__law_worth (aCons (xVar 1) (aCons (xVar 3) aNil))) (xVar 4)))) (sRet (xC (.bool false))) sNil))))
  (sIf (mTNot (mTru (mCallF 1 m__law_marked (aCons (xVar 1) aNil)))) (sRet (xC (.bool false))) sNil)))
theorem body_em {n1 k n : Nat} {z b : Int} {cs : Cs} {v3 v4 v5 : Option Rv} {QS : Out → Prop} (hz : z = (n : Int)) (hn : n ≤ 60) (hb : b.natAbs ≤ 1) (hc : cs[k]? = some (some ((pby b n).map .int))) (ok : okCs cs = true)
    (q : ∀ v3 v4 v5, QS (.nx [some (di z), some (.own k), some (di b), v3, v4, v5] (cs.set k (some (mkL (pby b n)))))) : Es pBody n1 [some (di z), some (.own k), some (di b), v3, v4, v5] cs QS := by
  have off := okCs_off (k := k) (n := 1) ok
  have e64 : (2 : Nat) ^ 7 = 128 := by decide
  have k1000 : 1000 < sizeLine := by rw [sizeLine_eq]; decide
  have fin : ∀ v3 v4 v5, Es (sIf (mTNot (mTru (mCallF 1 m__law_marked (aCons (xVar 1) aNil)))) (sRet (xC (.bool false))) sNil) n1 [some (di z), some (.own k), some (di b), v3, v4, v5] cs QS := fun v3 v4 v5 => by
    have hm := mk_own (n := 4) hc (by rw [pby_len]; omega) ok
    simp
    refine em_of (m := m__law_marked) hm ?_
    simp
    exact q v3 v4 v5
  have loop : ∀ v3 v4 v5, Es (sFor (iRg2 (aCons (mB dSub (mB dSub (xC (.int 0)) (xVar 0)) (xC (.int 2))) (aCons (mB dAdd (xVar 0) (xC (.int 3))) aNil))) (gNm 3) (sSeq (sSet 4 (xC (.int 1)))
  (sSeq (sFor (iRg1 (aCons (xVar 0) aNil)) (gNm 5) (sSet 4 (mB dMul (xVar 4) (mB dAdd (xVar 3) (mB dMul (xVar 2) (xVar 5))))))
  (sIf (mBorT 1 (mTB (mB dNe (mCallF 2 m__law_worth (aCons (xVar 1) (aCons (xVar 3) aNil))) (xVar 4)))) (sRet (xC (.bool false))) sNil)))) n1 [some (di z), some (.own k), some (di b), v3, v4, v5] cs (Nx n1 (sIf (mTNot (mTru (mCallF 1 m__law_marked (aCons (xVar 1) aNil)))) (sRet (xC (.bool false))) sNil) QS) := fun v3 v4 v5 => by
    have hbig : ∀ i : Int, i.natAbs ≤ 100 → sm62 i := fun i hi => sm_of (Nat.le_trans hi (by decide))
    simp only [es_sFor, ei_rg2, ea_cons, ea_nil, ev_mB, ev_xVar, ev_xC]
    simp [dSub_int, dAdd_int]
    refine ⟨⟨hbig _ (by omega), hbig _ (by omega)⟩, ?_⟩
    refine el_inv (k := 0) (fun i ρ cs' => cs' = cs ∧ ∃ v3 v4 v5, ρ = [some (di z), some (.own k), some (di b), v3, v4, v5]) ⟨rfl, _, _, _, rfl⟩ ?_ ?_
    · rintro i d ρ cs' hd ⟨rfl, v3, v4, v5, rfl⟩
      obtain ⟨hi, rfl⟩ := rng_get hd
      have hx : (-z - 2 + (i : Int)).natAbs < 2 ^ 7 := by omega
      generalize -z - 2 + (i : Int) = x at *
      have hfb : ∀ j : Nat, j ≤ 62 → (ff x b j).natAbs < 2 ^ (9 * j + 1) := fun j hj => ff_bd (m := 9) (fun i hi => by
        have h1 : ((i : Int) * b).natAbs ≤ 64 := by
          rw [Int.natAbs_mul]
          have : (i : Int).natAbs * b.natAbs ≤ (i : Int).natAbs * 1 := Nat.mul_le_mul_left _ hb
          omega
        have e9 : (2 : Nat) ^ 9 = 512 := by decide
        omega) j (by omega)
      simp only [eg_gNm, es_sSeq, es_sSet, ev_xC]
      simp
      refine ⟨hbig _ (by omega), ?_⟩
      refine el_inv (k := 0) (fun i ρ cs'' => cs'' = cs' ∧ ∃ v5, ρ = [some (di z), some (.own k), some (di b), some (di x), some (di (ff x b i)), v5]) ⟨rfl, v5, rfl⟩ ?_ ?_
      · rintro j d ρ cs'' hd ⟨rfl, v5, rfl⟩
        obtain ⟨hj, rfl⟩ := rng_get hd
        rw [Nat.zero_add] at *
        rw [Int.zero_add]
        have h1 : CMl b (j : Int) := cml 1 6 (Nat.lt_of_le_of_lt hb (by decide)) (Nat.lt_of_lt_of_le (show ((j : Nat) : Int).natAbs < 62 by omega) (by decide))
        have h2 : (b * (j : Int)).natAbs < 2 ^ 7 := by
          rw [Int.natAbs_mul]
          have : b.natAbs * (j : Int).natAbs ≤ 1 * (j : Int).natAbs := Nat.mul_le_mul_right _ hb
          omega
        have h3 : CMl (ff x b j) (x + b * (j : Int)) := cml (9 * j + 1) 8 (hfb j (by omega)) (pw_add hx h2) (by omega)
        have e : ff x b (j + 1) = ff x b j * (x + b * (j : Int)) := by
          show ff x b j * (x + j * b) = _
          rw [Int.mul_comm b]
        rw [e]
        generalize ((j : Nat) : Int) = J at *
        simp [dMul_int h1, dAdd_int, dMul_int h3]
      · rintro ρ cs'' ⟨rfl, v5, rfl⟩
        rw [rng_len, show 0 + z.toNat = n by omega]
        simp
        refine et_bor (i := 1) (k := k) (c := (pby b n).map .int) (ρ := [some (di z), some (.own k), some (di b), some (di x), some (di (ff x b n)), v5]) rfl hc ?_
        simp only [et_mTB, ev_mB, ev_mCallF, ea_cons, ea_nil, ev_xVar]
        simp [hidR, inG]
        refine em_of (lworth_eq (l := pby b n) (B := 7 * n + 1) (m := 7) hx (pby_bd hb n (by omega)) (by rw [pby_len]; omega)) ?_
        simp [fdNe_int, pby_hw, off, back_off]
    · rintro ρ cs' ⟨rfl, v3, v4, v5, rfl⟩
      rw [nx_nx]
      exact fin v3 v4 v5
  unfold pBody
  simp only [es_sSeq, es_sIf]
  refine et_bor (i := 1) (k := k) (c := (pby b n).map .int) (ρ := [some (di z), some (.own k), some (di b), v3, v4, v5]) rfl hc ?_
  simp only [et_mTOr, et_mTNot, et_mTru, ev_mCallF, ea_cons, ea_nil, ev_xVar]
  simp [hidR, inG]
  refine em_of (lpoly_eq (l := pby b n) (by rw [pby_len]; omega)) ?_
  simp [pby_nf]
  rw [len_l]
  simp [dAdd_int, fdNe_int, pby_len, hz, off, back_off]
  have := loop v3 v4 v5
  simp only [hz] at this
  simpa [dAdd_int] using this
theorem loop_prod {z : Int} {n n1 m : Nat} {QS : Out → Prop} (hz : z = (n : Int)) (hn : n ≤ 60) : ∀ (bs : List Int) (k : Nat) (cs : Cs) (v1 v2 v3 v4 v5 : Option Rv), (∀ b ∈ bs, b.natAbs ≤ 1) → (∀ (i : Nat) (b : Int), bs[i]? = some b → cs[k + i]? = some (some ((pby b n).map .int))) → okCs cs = true → m ≤ k →
    (∀ v1 v2 v3 v4 v5 cs', cs'.take m = cs.take m → QS (.nx [some (di z), v1, v2, v3, v4, v5] cs')) → wpd (loopT pBody n1 1 2 (bs.map fun b => ((pby b n).map .int, .int b)) k [some (di z), v1, v2, v3, v4, v5] cs) QS
  | [], k, cs, v1, v2, v3, v4, v5, _, _, _, _, q => q v1 v2 v3 v4 v5 cs rfl
  | b :: bs, k, cs, v1, v2, v3, v4, v5, hb, hc, ok, hm, q => by
    rw [List.map_cons]
    refine lt_cons ?_
    refine body_em hz hn (hb b (List.mem_cons_self ..)) (hc 0 b rfl) ok fun v3 v4 v5 => ?_
    refine loop_prod (m := m) hz hn bs (k + 1) _ _ _ _ _ _ (fun b' h => hb b' (List.mem_cons_of_mem _ h)) (fun i b' h => ?_) (okCs_set ok (noLs_mark _)) (by omega) fun w1 w2 w3 w4 w5 cs' hq => q _ _ _ _ _ cs' ?_
    · rw [List.getElem?_set_ne (by omega)]
      have := hc (i + 1) b' h
      rwa [show k + (i + 1) = k + 1 + i by omega] at this
    · rw [hq, List.take_set_of_le hm]
theorem okCs_ints {cs : Cs} (ok : okCs cs = true) {ls : List (List D)} (h : ∀ l ∈ ls, noLs l = true) : okCs (cs ++ ls.map some) = true := by
  rw [okCs_app, ok]
  show (true && (ls.map some).all _) = true
  rw [Bool.true_and, List.all_eq_true]
  intro x hx
  obtain ⟨l, hl, rfl⟩ := List.mem_map.mp hx
  exact h l hl
theorem eat_eq {f : MAt} {ρ : Rho} {cs cs' : Cs} {r : List D} (h : Eat f ρ cs fun r' c => r' = r ∧ c = cs') : f ρ cs = some (r, cs') := by
  obtain ⟨a, c, e, rfl, rfl⟩ := wpo_iff.mp h
  exact e
theorem products_eq {z : Int} {n : Nat} {cs : Cs} (hz : z = (n : Int)) (hn : n ≤ 60) (ok : okCs cs = true) : m__law_products_right [.dat (.int z)] cs = some (db true, cs) := by
  have ef := falling_eq (cs := cs) hz (show n ≤ 62 by omega) ok
  have er := rising_eq (cs := cs) hz (show n ≤ 62 by omega) ok
  have two : 2 ≤ sizeLine := two_fit
  refine em_eq ?_
  unfold m__law_products_right
  rw [em_fnM]
  unfold b__law_products_right
  rw [es_sSeq]
  refine es_forT (ds := [.tuple [iL (pby (-1) n), .int (-1)], .tuple [iL (pby (-1) n), .int (-1)], .tuple [iL (pby 1 n), .int 1], .tuple [iL (pby 1 n), .int 1]]) (ps := [-1, -1, 1, 1].map fun b => ((pby b n).map .int, .int b)) (cs1 := cs) ?_ ?_ ok (by show 4 ≤ sizeLine; rw [sizeLine_eq]; decide) ?_
  · refine eat_eq ?_
    simp only [eat_cons, eat_nil, ev_mTupT, ev_mCallF, ev_mCallK, ea_cons, ea_nil, ev_xVar, ev_mB, ev_xC]
    simp [dSub_int, pick0]
    refine em_of ef ?_
    simp [trD_fr (noLs_ints _), two, pick0]
    refine em_of ef ?_
    simp [trD_fr (noLs_ints _), two, pick0]
    refine em_of er ?_
    simp [trD_fr (noLs_ints _), two, pick0]
    refine em_of er ?_
    simp [trD_fr (noLs_ints _), two, pick0]
  · simp [shTs, shT, noLs_ints, noL]
  · refine loop_prod (m := cs.length) hz hn [-1, -1, 1, 1] cs.length _ none none none none none (by decide) (fun i b h => ?_) (okCs_ints (ls := [-1, -1, 1, 1].map fun b => (pby b n).map .int) ok fun l hl => ?_) (Nat.le_refl _) fun v1 v2 v3 v4 v5 cs' hq => ?_
    · rw [List.getElem?_append_right (by omega), show cs.length + i - cs.length = i by omega, List.getElem?_map, List.getElem?_map, h]
      rfl
    · obtain ⟨b, _, rfl⟩ := List.mem_map.mp hl
      exact noLs_ints _
    · rw [nx_nx]
      simp
      rw [hq]
      simp
end My
namespace My
open PySem PySem.Spec PyProof.Rows L2 DL
/-! QL: what is shown; sums of parts -/
structure RB (b k : Nat) (d : D) : Prop where
  s : d.leavesShort 7502 = true
  o : bigOk d = true
  l : d.bulk ≤ b
  p : d.depth ≤ k
  f : noF d = true
structure RBs (b k : Nat) (ds : List D) : Prop where
  s : PyData.leavesShortAll 7502 ds = true
  o : bigOks ds = true
  l : PyData.bulkAll ds ≤ b
  p : PyData.depthAll ds ≤ k
  f : noFs ds = true
theorem farS {i : Int} (h : i.natAbs < 2 ^ 7500) : (PyData.int i).leavesShort 7502 = true ∧ bigOk (.int i) = true := by
  have hl : i.natAbs.log2 ≤ 7500 := log2_le h
  constructor
  · have := PySem.int_text_length_le (a := i) (k := 7501) (by decide) (by omega)
    show decide ((PyData.shown (.int i)).length ≤ 7502) = true
    refine decide_eq_true ?_
    show (Str.ofString (toString i)).length ≤ 7502
    rw [ofs_len]
    exact this
  · unfold bigOk
    exact decide_eq_true (by omega)
theorem rb_int {i : Int} {k : Nat} (h : i.natAbs < 2 ^ 7500) : RB 0 k (.int i) := ⟨(farS h).1, (farS h).2, Nat.le_refl _, Nat.zero_le _, rfl⟩
theorem rbs_nil {k : Nat} : RBs 0 k [] := ⟨rfl, by unfold bigOks; rfl, Nat.le_refl _, Nat.zero_le _, by unfold noFs; rfl⟩
theorem rbs_cons {b b' k : Nat} {d : D} {ds : List D} (h : RB b k d) (h' : RBs b' k ds) : RBs (b + 1 + b') k (d :: ds) := by
  refine ⟨?_, ?_, ?_, ?_, ?_⟩
  · rw [PyData.leavesShortAll, h.s, h'.s]
    rfl
  · rw [bigOks, h.o, h'.o]
    rfl
  · rw [PyData.bulkAll]
    have := h.l
    have := h'.l
    omega
  · rw [PyData.depthAll]
    exact Nat.max_le.mpr ⟨h.p, h'.p⟩
  · unfold noFs
    rw [h.f, h'.f]
    rfl
theorem rb_list {b k : Nat} {ds : List D} (h : RBs b k ds) : RB b (k + 1) (.list ds) := ⟨h.s, by unfold bigOk; exact h.o, h.l, by
  show PyData.depthAll ds + 1 ≤ _
  have := h.p
  omega, by unfold noF; exact h.f⟩
theorem rb_tuple {b k : Nat} {ds : List D} (h : RBs b k ds) : RB b (k + 1) (.tuple ds) := ⟨h.s, by unfold bigOk; exact h.o, h.l, by
  show PyData.depthAll ds + 1 ≤ _
  have := h.p
  omega, by unfold noF; exact h.f⟩
theorem RBs.le {b b' k : Nat} {ds : List D} (h : RBs b k ds) (hb : b ≤ b') : RBs b' k ds := ⟨h.s, h.o, Nat.le_trans h.l hb, h.p, h.f⟩
theorem RB.le {b b' k : Nat} {d : D} (h : RB b k d) (hb : b ≤ b') : RB b' k d := ⟨h.s, h.o, Nat.le_trans h.l hb, h.p, h.f⟩
theorem RB.dp {b k k' : Nat} {d : D} (h : RB b k d) (hb : k ≤ k') : RB b k' d := ⟨h.s, h.o, h.l, Nat.le_trans h.p hb, h.f⟩
theorem rbs_ints {B : Nat} (hB : B ≤ 7500) : ∀ {l : List Int}, Bd B l → RBs l.length 0 (l.map .int)
  | [], _ => rbs_nil
  | c :: r, h => (rbs_cons (rb_int (pw_le (h c (List.mem_cons_self ..)) hB)) (rbs_ints hB fun d hd => h d (List.mem_cons_of_mem _ hd))).le (by simp; omega)
theorem rb_ints {B : Nat} (hB : B ≤ 7500) {l : List Int} (h : Bd B l) : RB l.length 1 (iL l) := rb_list (rbs_ints hB h)
theorem rb_big {b k : Nat} {ds : List D} (h : RB b k (.list ds)) (hb : b ≤ 1000) (hk : k ≤ 100) : rBig (.list ds) = true := by
  have sl := PyData.shown_le_bulk 7502 (by decide) (.list ds) h.s
  have z : (PyData.list ds).shown.length ≤ sizeLine := by
    rw [sizeLine_eq]
    have := h.l
    omega
  have d : (PyData.list ds).depth ≤ 100 := Nat.le_trans h.p hk
  unfold rBig
  rw [decide_eq_true d, decide_eq_true z, h.o, h.f]
  rfl
theorem rp_list {b k : Nat} {ds : List D} (h : RB b k (.list ds)) (hb : b ≤ 1000) (hk : k ≤ 100) : dReprB [.list ds] = some (.dat (.str (PyData.list ds).shown)) := repr_okB2 rfl (rb_big h hb hk)
/-! sums -/
theorem bn_bd : ∀ n k : Nat, 0 ≤ bn n k ∧ bn n k ≤ 2 ^ n
  | 0, 0 => by simp [bn]
  | 0, k + 1 => by simp [bn]
  | n + 1, 0 => by
    rw [bn_zero]
    have := bn_bd n 0
    rw [bn_zero] at this
    rw [Int.pow_succ]
    omega
  | n + 1, k + 1 => by
    have h1 := bn_bd n k
    have h2 := bn_bd n (k + 1)
    show 0 ≤ bn n k + bn n (k + 1) ∧ bn n k + bn n (k + 1) ≤ 2 ^ (n + 1)
    rw [Int.pow_succ]
    omega
theorem bn_abs {n k : Nat} (hn : n ≤ 63) : (bn n k).natAbs < 2 ^ 64 := by
  obtain ⟨h1, h2⟩ := bn_bd n k
  have h3 : (2 : Int) ^ n ≤ 2 ^ 63 := by
    have := Nat.pow_le_pow_right (n := 2) (by decide) hn
    exact_mod_cast this
  have e : (2 : Int) ^ 63 = 9223372036854775808 := by decide
  have e2 : (2 : Nat) ^ 64 = 18446744073709551616 := by decide
  rw [e] at h3
  rw [e2]
  omega
def bl (n : Nat) : Nat → List Int → List Int
  | _, [] => []
  | k, c :: r => c * bn n k :: bl n (k + 1) r
theorem bl_sum {n : Nat} : ∀ (l : List Int) (k : Nat), (bl n k l).sum = bs n k l
  | [], _ => rfl
  | c :: r, k => by
    show (c * bn n k :: bl n (k + 1) r).sum = c * bn n k + bs n (k + 1) r
    rw [List.sum_cons, bl_sum r]
def bF (n : Nat) : D → D
  | .tuple [.int i, .int c] => .int (c * bn n i.toNat)
  | d => d
theorem bl_enum {n : Nat} : ∀ (l : List Int) (k : Nat), (enumD k (l.map .int)).map (bF n) = (bl n k l).map .int
  | [], _ => rfl
  | c :: r, k => by
    show bF n (.tuple [.int (k : Int), .int c]) :: (enumD (k + 1) (r.map .int)).map (bF n) = .int (c * bn n k) :: (bl n (k + 1) r).map .int
    rw [bl_enum r]
    rfl
theorem intsD_map : ∀ l : List Int, intsD (l.map .int) = some l
  | [] => rfl
  | c :: l => by
    show (intsD (l.map .int)).map _ = _
    rw [intsD_map l]
    rfl
theorem sum_ints {l : List Int} : dSum [iL l] = some (di l.sum) := by
  show (intsD (l.map .int)).map _ = _
  rw [intsD_map]
  rfl
theorem sum_ec {n B : Nat} {N : Int} {l : List Int} {cs : Cs} {v0 v1 v2 v3 v5 v6 v7 v8 v9 v10 v11 : Option Rv} {Q : List D → Cs → Prop} (hN : N = (n : Int)) (hn : n ≤ 63) (hl : l.length ≤ 63) (hb : Bd B l) (hB : B ≤ 1000000) (q : Q ((bl n 0 l).map .int) cs) :
    Ec (gTp 2 (gsCons (gNm 12) (gsCons (gNm 13) gsNil))) mYes (mB dMul (xVar 13) (mCallF 2 m__law_binomial (aCons (xVar 4) (aCons (xVar 12) aNil)))) (enumD 0 (l.map .int)) [v0, v1, v2, v3, some (di N), v5, v6, v7, v8, v9, v10, v11, none, none] cs [] Q := by
  have k1000 : 1000 ≤ sizeLine := by decide +kernel
  refine ec_pure (fun _ => true) (bF n) (fun d hd cs' => ?_) (by rw [enumD_len]; simp; omega) ?_
  · obtain ⟨i, hi, rfl⟩ := enumI_mem hd
    rw [Nat.zero_add]
    have hc := hb _ (List.getElem_mem hi)
    have e1 := lbin_eq (z := N) (w := ((i : Nat) : Int)) (n := n) (k := i) (cs := cs') hN rfl hn (by omega)
    have hm : CMl l[i] (bn n i) := cml B 64 hc (bn_abs hn) (by omega)
    have eF : bF n (.tuple [.int ((i : Nat) : Int), .int l[i]]) = .int (l[i] * bn n i) := rfl
    rw [eF]
    generalize ((i : Nat) : Int) = I at *
    simp
    refine em_of e1 ?_
    simp [dMul_int hm]
  · rw [List.nil_append, List.filter_eq_self.mpr (fun _ _ => rfl), bl_enum]
    exact q
end My
namespace My
open PySem PySem.Spec PyProof.Rows L2 DL
/-! QM: parts, worths and sums are right -/
@[irreducible] noncomputable def r1 : MS := (sParO 6 7 (aDat (mCall dReprB (aCons (xVar 1) aNil)) (aDat (mCall dReprB (aCons (xVar 2) aNil)) aNil)))
@[irreducible] noncomputable def r2 : MS := (sOwn 3 (mCallF 1 m_binomial_parts (aCons (xVar 1) aNil)))
@[irreducible] noncomputable def r3 : MS := (sIf (mBorT 3 (mTOr (mTNot (mTru (mCallF 2 m__law_same (aCons (mCallK 0 1 1 [0] m_binomial_parts aNil (aCons (xVar 1) aNil)) (aCons (xVar 3) aNil))))) (mTOr (mTNot (mTru (mCallF 1 m__law_is_poly (aCons (xVar 3) aNil)))) (mTB (mB dNe (mCall dLen (aCons (xVar 3) aNil)) (mCall dLen (aCons (xVar 1) aNil))))))) (sRet (xC (.bool false))) sNil)
@[irreducible] noncomputable def r4 : MS := (sFor (iRg1 (aCons (mB dAdd (mCall dLen (aCons (xVar 1) aNil)) (xC (.int 3))) aNil)) (gNm 4) (sIf (mBorT 3 (mTB (mB dNe (mCall dSum (aCons (xComp (iEn (aCons (xVar 3) aNil)) (gTp 2 (gsCons (gNm 12) (gsCons (gNm 13) gsNil))) mYes (mB dMul (xVar 13) (mCallF 2 m__law_binomial (aCons (xVar 4) (aCons (xVar 12) aNil)))) [12, 13]) aNil)) (mCallF 2 m__law_worth (aCons (xVar 1) (aCons (xVar 4) aNil)))))) (sRet (xC (.bool false))) sNil))
@[irreducible] noncomputable def r5 : MS := (sUnp 8 9 (mCallF 1 m_of_binomial_parts (aCons (xVar 2) aNil)))
@[irreducible] noncomputable def r6 : MS := (sIf (mBorT 8 (mTOr (mTNot (mTru (mCallF 2 m__law_same (aCons (mCall dList (aCons (mCallK 0 1 1 [0] m_of_binomial_parts aNil (aCons (xVar 2) aNil)) aNil)) (aCons (xLst (aCons (xVar 8) (aCons (xVar 9) aNil))) aNil))))) (mTOr (mTNot (mTru (mCallF 1 m__law_is_poly (aCons (xVar 8) aNil)))) (mTOr (mTB (mB dLt (xVar 9) (xC (.int 1)))) (mTB (mB dNotIn (mCallF 2 m__law_divisor (aCons (xVar 9) (aCons (mCallF 1 m__law_content (aCons (xVar 8) aNil)) aNil))) (xLst (aCons (xC (.int 0)) (aCons (xC (.int 1)) aNil))))))))) (sRet (xC (.bool false))) sNil)
@[irreducible] noncomputable def r7 : MS := (sFor (iRg1 (aCons (mB dAdd (mCall dLen (aCons (xVar 2) aNil)) (xC (.int 3))) aNil)) (gNm 4) (sIf (mBorT 8 (mTB (mB dNe (mCallF 2 m__law_worth (aCons (xVar 8) (aCons (xVar 4) aNil))) (mB dMul (xVar 9) (mCall dSum (aCons (xComp (iEn (aCons (xVar 2) aNil)) (gTp 2 (gsCons (gNm 12) (gsCons (gNm 13) gsNil))) mYes (mB dMul (xVar 13) (mCallF 2 m__law_binomial (aCons (xVar 4) (aCons (xVar 12) aNil)))) [12, 13]) aNil)))))) (sRet (xC (.bool false))) sNil))
@[irreducible] noncomputable def r8 : MS := (sIf (mBorT 3 (mTNot (mTru (mCallF 2 m__law_same (aCons (mCall dList (aCons (mCallF 1 m_of_binomial_parts (aCons (xVar 3) aNil)) aNil)) (aCons (xLst (aCons (xVar 1) (aCons (xC (.int 1)) aNil))) aNil)))))) (sRet (xC (.bool false))) sNil)
@[irreducible] noncomputable def r9 : MS := (sUnp 10 11 (mCallF 1 m_summed_poly (aCons (xVar 1) aNil)))
@[irreducible] noncomputable def r10 : MS := (sIf (mBorT 10 (mTOr (mTNot (mTru (mCallF 2 m__law_same (aCons (mCall dList (aCons (mCallK 0 1 1 [0] m_summed_poly aNil (aCons (xVar 1) aNil)) aNil)) (aCons (xLst (aCons (xVar 10) (aCons (xVar 11) aNil))) aNil))))) (mTOr (mTNot (mTru (mCallF 1 m__law_is_poly (aCons (xVar 10) aNil)))) (mTOr (mTB (mB dLt (xVar 11) (xC (.int 1)))) (mTB (mB dNotIn (mCallF 2 m__law_divisor (aCons (xVar 11) (aCons (mCallF 1 m__law_content (aCons (xVar 10) aNil)) aNil))) (xLst (aCons (xC (.int 0)) (aCons (xC (.int 1)) aNil))))))))) (sRet (xC (.bool false))) sNil)
@[irreducible] noncomputable def r11 : MS := (sFor (iRg1 (aCons (mB dAdd (mCall dLen (aCons (xVar 1) aNil)) (xC (.int 4))) aNil)) (gNm 4) (sIf (mBorT 10 (mTB (mB dNe (mCallF 2 m__law_worth (aCons (xVar 10) (aCons (xVar 4) aNil))) (mB dMul (xVar 11) (mCall dSum (aCons (xComp (iRg1 (aCons (xVar 4) aNil)) (gNm 12) mYes (mCallF 2 m__law_worth (aCons (xVar 1) (aCons (xVar 12) aNil))) [12]) aNil)))))) (sRet (xC (.bool false))) sNil))
@[irreducible] noncomputable def r12 : MS := (sSet 5 (mBor 3 (mBor 8 (mBor 10 (mCall dReprB (aCons (xLst (aCons (xVar 3) (aCons (xTup (aCons (xVar 8) (aCons (xVar 9) aNil))) (aCons (xTup (aCons (xVar 10) (aCons (xVar 11) aNil))) aNil)))) aNil))))))
@[irreducible] noncomputable def r13 : MS := (sIf (mTOr (mTNot (mTru (mMark mo__law_marked (aCons (xVar 3) (aCons (xVar 8) (aCons (xVar 10) aNil)))))) (mTB (mB dNe (mCall dReprB (aCons (xLst (aCons (mCallF 1 m_binomial_parts (aCons (xVar 1) aNil)) (aCons (mCallF 1 m_of_binomial_parts (aCons (xVar 2) aNil)) (aCons (mCallF 1 m_summed_poly (aCons (xVar 1) aNil)) aNil)))) aNil)) (xVar 5)))) (sRet (xC (.bool false))) sNil)
@[irreducible] noncomputable def r14 : MS := (sRet (mAnd (mB dEq (mCall dReprB (aCons (xVar 1) aNil)) (xVar 6)) (mB dEq (mCall dReprB (aCons (xVar 2) aNil)) (xVar 7))))
theorem right_split : b__law_right = sSeq r1 (sSeq r2 (sSeq r3 (sSeq r4 (sSeq r5 (sSeq r6 (sSeq r7 (sSeq r8 (sSeq r9 (sSeq r10 (sSeq r11 (sSeq r12 (sSeq r13 (r14))))))))))))) := by
  unfold r1 r2 r3 r4 r5 r6 r7 r8 r9 r10 r11 r12 r13 r14
  rfl
theorem ediv_abs (c : Int) (g : Nat) : (c / (g : Int)).natAbs ≤ c.natAbs := Int.natAbs_ediv_le_natAbs c g
theorem mobF_bd {B : Nat} {l : List Int} (hb : Bd B l) (hl : l.length ≤ 60) : Bd (B + 8 * l.length + 1) (mobF l) := fun c hc => by
  obtain ⟨b1, b2, b3, b4, b5⟩ := st_bd (B := B) l.length hb hl
  rw [List.take_length] at b1
  obtain ⟨d, hd, rfl⟩ := List.mem_map.mp hc
  exact Nat.lt_of_le_of_lt (ediv_abs d _) (b1 d hd)
theorem mobF_len {B : Nat} {l : List Int} (hb : Bd B l) (hl : l.length ≤ 60) : (mobF l).length ≤ l.length + 1 := by
  obtain ⟨b1, b2, b3, b4, b5⟩ := st_bd (B := B) l.length hb hl
  rw [List.take_length] at b5
  unfold mobF
  rw [List.length_map]
  exact b5
theorem mobB_bd {B : Nat} {l : List Int} (hb : Bd B l) (hl : l.length ≤ 60) : (mobB l).natAbs < 2 ^ (6 * l.length + 1) := by
  obtain ⟨b1, b2, b3, b4, b5⟩ := st_bd (B := B) l.length hb hl
  rw [List.take_length] at b2
  exact Nat.lt_of_le_of_lt (ediv_abs _ _) b2
structure Rt (p ns : List Int) : Prop where
  hp : Bd 34 p
  pn : NF p
  pl : p.length ≤ 25
  hn : Bd 34 ns
  nl : ns.length ≤ 30
theorem same_pair {l : List Int} {b : Int} (h : l.length ≤ 1000) : sameOk 5 (.list [iL l, .int b]) = true := by
  have h1 := same_ints (l := l) 3 h
  have two : 2 ≤ sizeLine := two_fit
  show (decide (2 ≤ sizeLine) && (sameOk 4 (iL l) && (sameOk 4 (.int b) && true))) = true
  rw [decide_eq_true two, h1]
  rfl
theorem notin_01 : dNotIn (.int 1) (.list [.int 0, .int 1]) = some (db false) := by
  unfold dNotIn
  rw [if_pos (c := CIn (.int 1) (.list [.int 0, .int 1])) ⟨rfl, rfl, by decide⟩]
  rfl
theorem bs_bd {n B : Nat} (hn : n ≤ 63) : ∀ {l : List Int}, Bd B l → ∀ k, (bs n k l).natAbs < 2 ^ (B + 64 + l.length)
  | [], _, k => Nat.two_pow_pos _
  | c :: r, h, k => by
    have h1 := pw_mul (h c (List.mem_cons_self ..)) (bn_abs (k := k) hn)
    have h2 := bs_bd hn (l := r) (fun d hd => h d (List.mem_cons_of_mem _ hd)) (k + 1)
    show (c * bn n k + bs n (k + 1) r).natAbs < 2 ^ (B + 64 + r.length + 1)
    exact pw_add (pw_le h1 (by omega)) h2
section
variable {p ns : List Int} {n0 k : Nat} {CS : Cs} {QS : Out → Prop} {v0 v3 v4 v5 v6 v7 v8 v9 v10 v11 v12 v13 : Option Rv}
theorem Rt.ha (h : Rt p ns) : Bd 234 (toBin p) := (toBin_bd h.hp (by have := h.pl; omega)).mono (by have := h.pl; omega)
theorem Rt.la (h : Rt p ns) : (toBin p).length ≤ 25 := by rw [toBin_len]; exact h.pl
theorem Rt.parts (h : Rt p ns) {cs : Cs} : m_binomial_parts [.dat (iL p)] cs = some (.fr ((toBin p).map .int), cs) := parts_eq h.hp (by omega) (by have := h.pl; omega) h.pn
theorem Rt.found (h : Rt p ns) {cs : Cs} (ok : okCs cs = true) : m_of_binomial_parts [.dat (iL ns)] cs = some (.ft (.tuple [iL (mobF ns), .int (mobB ns)]), cs) := ofparts_eq h.hn (by omega) (by have := h.nl; omega) ok
theorem Rt.back (h : Rt p ns) {cs : Cs} (ok : okCs cs = true) : m_of_binomial_parts [.dat (iL (toBin p))] cs = some (.ft (.tuple [iL p, .int 1]), cs) := by
  obtain ⟨e1, e2⟩ := mob_back h.pn
  have := ofparts_eq h.ha (cs := cs) (by omega) (by have := h.la; omega) ok
  rw [e1, e2] at this
  exact this
theorem Rt.summed (h : Rt p ns) {cs : Cs} (ok : okCs cs = true) : m_summed_poly [.dat (iL p)] cs = some (.ft (.tuple [iL (mobF (0 :: toBin p)), .int (mobB (0 :: toBin p))]), cs) := summed_eq h.hp (by omega) (by have := h.pl; omega) h.pn ok
theorem Rt.h0 (h : Rt p ns) : Bd 234 (0 :: toBin p) := fun c hc => by
  rcases List.mem_cons.mp hc with rfl | hc
  · exact Nat.two_pow_pos _
  · exact h.ha c hc
theorem Rt.l0 (h : Rt p ns) : (0 :: toBin p).length ≤ 26 := by
  have := h.la
  simp
  omega
theorem Rt.fb (h : Rt p ns) : Bd 300 (mobF ns) := (mobF_bd h.hn (by have := h.nl; omega)).mono (by have := h.nl; omega)
theorem Rt.fl (h : Rt p ns) : (mobF ns).length ≤ 31 := by have := mobF_len h.hn (by have := h.nl; omega); have := h.nl; omega
theorem Rt.fB (h : Rt p ns) : (mobB ns).natAbs < 2 ^ 200 := pw_le (mobB_bd h.hn (by have := h.nl; omega)) (by have := h.nl; omega)
theorem Rt.gb (h : Rt p ns) : Bd 500 (mobF (0 :: toBin p)) := (mobF_bd h.h0 (by have := h.l0; omega)).mono (by have := h.l0; omega)
theorem Rt.gl (h : Rt p ns) : (mobF (0 :: toBin p)).length ≤ 27 := by have := mobF_len h.h0 (by have := h.l0; omega); have := h.l0; omega
theorem Rt.gB (h : Rt p ns) : (mobB (0 :: toBin p)).natAbs < 2 ^ 200 := pw_le (mobB_bd h.h0 (by have := h.l0; omega)) (by have := h.l0; omega)
theorem r1_em (h : Rt p ns) (q : QS (.nx [v0, some (.dat (iL p)), some (.dat (iL ns)), v3, v4, v5, some (.dat (.str (iL p).shown)), some (.dat (.str (iL ns).shown)), v8, v9, v10, v11, v12, v13] CS)) : Es r1 n0 [v0, some (.dat (iL p)), some (.dat (iL ns)), v3, v4, v5, v6, v7, v8, v9, v10, v11, v12, v13] CS QS := by
  have e1 := rp_list (rb_ints (by omega) h.hp) (by have := h.pl; omega) (by omega)
  have e2 := rp_list (rb_ints (by omega) h.hn) (by have := h.nl; omega) (by omega)
  unfold r1
  simp [e1, e2]
  exact q
theorem r3_em (h : Rt p ns) (hc : CS[k]? = some (some ((toBin p).map .int))) (ok : okCs CS = true) (q : QS (.nx [v0, some (.dat (iL p)), some (.dat (iL ns)), some (.own k), v4, v5, v6, v7, v8, v9, v10, v11, v12, v13] CS)) : Es r3 n0 [v0, some (.dat (iL p)), some (.dat (iL ns)), some (.own k), v4, v5, v6, v7, v8, v9, v10, v11, v12, v13] CS QS := by
  have off := okCs_off (k := k) (n := 1) ok
  have hl := h.la
  unfold r3
  rw [es_sIf]
  refine et_bor (i := 3) (k := k) (c := (toBin p).map .int) (ρ := [v0, some (.dat (iL p)), some (.dat (iL ns)), some (.own k), v4, v5, v6, v7, v8, v9, v10, v11, v12, v13]) rfl hc ?_
  simp only [et_mTOr, et_mTNot, et_mTru, ev_mCallF, ev_mCallK, ea_cons, ea_nil, ev_xVar]
  simp [hidR, inG, pick0]
  refine em_of h.parts ?_
  simp
  refine em_of (lsame_eq (d := iL (toBin p)) (same_ints 4 (by omega))) ?_
  simp
  refine em_of (lpoly_eq (l := toBin p) (by omega)) ?_
  simp [toBin_nf p h.pn]
  rw [len_l]
  simp [fdNe_int, toBin_len, len_eq, off, back_off]
  exact q
theorem r4_em (h : Rt p ns) (hc : CS[k]? = some (some ((toBin p).map .int))) (ok : okCs CS = true) (q : ∀ v4, QS (.nx [v0, some (.dat (iL p)), some (.dat (iL ns)), some (.own k), v4, v5, v6, v7, v8, v9, v10, v11, v12, v13] CS)) : Es r4 n0 [v0, some (.dat (iL p)), some (.dat (iL ns)), some (.own k), v4, v5, v6, v7, v8, v9, v10, v11, v12, v13] CS QS := by
  have off := okCs_off (k := k) (n := 1) ok
  have hl := h.la
  have pl := h.pl
  unfold r4
  simp [len_eq, dAdd_int]
  refine ⟨sm_of (Nat.le_trans (show ((p.length : Int) + 3).natAbs ≤ 100 by omega) (by decide)), ?_⟩
  refine el_inv (k := 0) (fun i ρ cs' => cs' = CS ∧ ∃ v4, ρ = [v0, some (.dat (iL p)), some (.dat (iL ns)), some (.own k), v4, v5, v6, v7, v8, v9, v10, v11, v12, v13]) ⟨rfl, _, rfl⟩ ?_ ?_
  · rintro i d ρ cs' hd ⟨rfl, v4, rfl⟩
    obtain ⟨hi, rfl⟩ := rng_get hd
    have hN : (0 : Int) + (i : Int) = (i : Int) := by omega
    have hx : ((0 : Int) + (i : Int)).natAbs < 2 ^ 6 := by
      have : (2 : Nat) ^ 6 = 64 := by decide
      omega
    have eb : bs i 0 (toBin p) = hw ((0 : Int) + (i : Int)) p := by rw [toBin_bs, hN]
    generalize (0 : Int) + (i : Int) = N at *
    rw [eg_gNm, es_sIf]
    refine et_bor (i := 3) (k := k) (c := (toBin p).map .int) (ρ := [v0, some (.dat (iL p)), some (.dat (iL ns)), some (.own k), some (.dat (.int N)), v5, v6, v7, v8, v9, v10, v11, v12, v13]) rfl hc ?_
    simp only [et_mTB, ev_mB, ev_mCall, ev_mCallF, ea_cons, ea_nil, ev_xVar, ev_xComp, ei_en]
    simp [hidR, inG, wipeR]
    refine sum_ec hN (by omega) (by omega) h.ha (by omega) ?_
    rw [sum_ints, bl_sum]
    simp
    refine em_of (lworth_eq hx h.hp (by omega)) ?_
    simp [fdNe_int, eb, off, back_off]
  · rintro ρ cs' ⟨rfl, v4, rfl⟩
    exact q v4
theorem r6_em (h : Rt p ns) (hc : CS[k]? = some (some ((mobF ns).map .int))) (ok : okCs CS = true) (q : QS (.nx [v0, some (.dat (iL p)), some (.dat (iL ns)), v3, v4, v5, v6, v7, some (.own k), some (di (mobB ns)), v10, v11, v12, v13] CS)) : Es r6 n0 [v0, some (.dat (iL p)), some (.dat (iL ns)), v3, v4, v5, v6, v7, some (.own k), some (di (mobB ns)), v10, v11, v12, v13] CS QS := by
  have off := okCs_off (k := k) (n := 1) ok
  have hl := h.fl
  have low := (mob_ok ns).1
  have k2 := two_fit
  unfold r6
  rw [es_sIf]
  refine et_bor (i := 8) (k := k) (c := (mobF ns).map .int) (ρ := [v0, some (.dat (iL p)), some (.dat (iL ns)), v3, v4, v5, v6, v7, some (.own k), some (di (mobB ns)), v10, v11, v12, v13]) rfl hc ?_
  simp only [et_mTOr, et_mTNot, et_mTru, ev_mCall, ev_mCallF, ev_mCallK, ea_cons, ea_nil, ev_xVar]
  simp [hidR, inG, pick0]
  refine em_of (h.found off) ?_
  simp [dList, k2]
  refine em_of (lsame_eq (d := .list [iL (mobF ns), .int (mobB ns)]) (same_pair (by omega))) ?_
  simp
  refine em_of (lpoly_eq (l := mobF ns) (by omega)) ?_
  simp [low.nf, dLt_int, show ¬ (mobB ns < 1) by have := low.pos; omega]
  refine em_of lcont_eq ?_
  simp
  have e1 := fun cs => ldiv_eq (a := mobB ns) (b := ((gcdL 0 (mobF ns) : Nat) : Int)) (cs := cs)
  have e2 : Int.gcd (mobB ns) ((gcdL 0 (mobF ns) : Nat) : Int) = 1 := low.gcd
  rw [e2] at e1
  generalize ((gcdL 0 (mobF ns) : Nat) : Int) = G at *
  refine em_of (e1 _) ?_
  simp [k2, notin_01, off, back_off]
  exact q
theorem r7_em (h : Rt p ns) (hc : CS[k]? = some (some ((mobF ns).map .int))) (ok : okCs CS = true) (q : ∀ v4, QS (.nx [v0, some (.dat (iL p)), some (.dat (iL ns)), v3, v4, v5, v6, v7, some (.own k), some (di (mobB ns)), v10, v11, v12, v13] CS)) : Es r7 n0 [v0, some (.dat (iL p)), some (.dat (iL ns)), v3, v4, v5, v6, v7, some (.own k), some (di (mobB ns)), v10, v11, v12, v13] CS QS := by
  have off := okCs_off (k := k) (n := 1) ok
  have hl := h.nl
  have fl := h.fl
  unfold r7
  simp [len_eq, dAdd_int]
  refine ⟨sm_of (Nat.le_trans (show ((ns.length : Int) + 3).natAbs ≤ 100 by omega) (by decide)), ?_⟩
  refine el_inv (k := 0) (fun i ρ cs' => cs' = CS ∧ ∃ v4, ρ = [v0, some (.dat (iL p)), some (.dat (iL ns)), v3, v4, v5, v6, v7, some (.own k), some (di (mobB ns)), v10, v11, v12, v13]) ⟨rfl, _, rfl⟩ ?_ ?_
  · rintro i d ρ cs' hd ⟨rfl, v4, rfl⟩
    obtain ⟨hi, rfl⟩ := rng_get hd
    have hN : (0 : Int) + (i : Int) = (i : Int) := by omega
    have hx : ((0 : Int) + (i : Int)).natAbs < 2 ^ 6 := by
      have : (2 : Nat) ^ 6 = 64 := by decide
      omega
    have eb : hw ((0 : Int) + (i : Int)) (mobF ns) = mobB ns * bs i 0 ns := by rw [hN]; exact (mob_ok ns).2 i
    have hsb := bs_bd (n := i) (B := 34) (by omega) h.hn 0
    have hm : CMl (mobB ns) (bs i 0 ns) := cml 200 (34 + 64 + ns.length) h.fB hsb (by omega)
    generalize (0 : Int) + (i : Int) = N at *
    rw [eg_gNm, es_sIf]
    refine et_bor (i := 8) (k := k) (c := (mobF ns).map .int) (ρ := [v0, some (.dat (iL p)), some (.dat (iL ns)), v3, some (.dat (.int N)), v5, v6, v7, some (.own k), some (di (mobB ns)), v10, v11, v12, v13]) rfl hc ?_
    simp only [et_mTB, ev_mB, ev_mCall, ev_mCallF, ea_cons, ea_nil, ev_xVar, ev_xComp, ei_en]
    simp [hidR, inG, wipeR]
    refine em_of (lworth_eq hx h.fb (by omega)) ?_
    refine sum_ec hN (by omega) (by omega) h.hn (by omega) ?_
    rw [sum_ints, bl_sum]
    simp [fdNe_int, dMul_int hm, eb, off, back_off]
  · rintro ρ cs' ⟨rfl, v4, rfl⟩
    exact q v4
theorem r8_em (h : Rt p ns) (hc : CS[k]? = some (some ((toBin p).map .int))) (ok : okCs CS = true) (q : QS (.nx [v0, some (.dat (iL p)), some (.dat (iL ns)), some (.own k), v4, v5, v6, v7, v8, v9, v10, v11, v12, v13] CS)) : Es r8 n0 [v0, some (.dat (iL p)), some (.dat (iL ns)), some (.own k), v4, v5, v6, v7, v8, v9, v10, v11, v12, v13] CS QS := by
  have off := okCs_off (k := k) (n := 1) ok
  have hl := h.pl
  have k2 := two_fit
  unfold r8
  rw [es_sIf]
  refine et_bor (i := 3) (k := k) (c := (toBin p).map .int) (ρ := [v0, some (.dat (iL p)), some (.dat (iL ns)), some (.own k), v4, v5, v6, v7, v8, v9, v10, v11, v12, v13]) rfl hc ?_
  simp only [et_mTNot, et_mTru, ev_mCall, ev_mCallF, ea_cons, ea_nil, ev_xVar]
  simp [hidR, inG]
  refine em_of (h.back off) ?_
  simp [dList, k2]
  refine em_of (lsame_eq (d := .list [iL p, .int 1]) (same_pair (by omega))) ?_
  simp [off, back_off]
  exact q
theorem r10_em (h : Rt p ns) (hc : CS[k]? = some (some ((mobF (0 :: toBin p)).map .int))) (ok : okCs CS = true) (q : QS (.nx [v0, some (.dat (iL p)), some (.dat (iL ns)), v3, v4, v5, v6, v7, v8, v9, some (.own k), some (di (mobB (0 :: toBin p))), v12, v13] CS)) : Es r10 n0 [v0, some (.dat (iL p)), some (.dat (iL ns)), v3, v4, v5, v6, v7, v8, v9, some (.own k), some (di (mobB (0 :: toBin p))), v12, v13] CS QS := by
  have off := okCs_off (k := k) (n := 1) ok
  have hl := h.gl
  have low := (mob_ok (0 :: toBin p)).1
  have k2 := two_fit
  have e9 := h.summed off
  generalize 0 :: toBin p = L at *
  unfold r10
  rw [es_sIf]
  refine et_bor (i := 10) (k := k) (c := (mobF L).map .int) (ρ := [v0, some (.dat (iL p)), some (.dat (iL ns)), v3, v4, v5, v6, v7, v8, v9, some (.own k), some (di (mobB L)), v12, v13]) rfl hc ?_
  simp only [et_mTOr, et_mTNot, et_mTru, ev_mCall, ev_mCallF, ev_mCallK, ea_cons, ea_nil, ev_xVar]
  simp [hidR, inG, pick0]
  refine em_of e9 ?_
  simp [dList, k2]
  refine em_of (lsame_eq (d := .list [iL (mobF L), .int (mobB L)]) (same_pair (by omega))) ?_
  simp
  refine em_of (lpoly_eq (l := mobF L) (by omega)) ?_
  simp [low.nf, dLt_int, show ¬ (mobB L < 1) by have := low.pos; omega]
  refine em_of lcont_eq ?_
  simp
  have e1 := fun cs => ldiv_eq (a := mobB L) (b := ((gcdL 0 (mobF L) : Nat) : Int)) (cs := cs)
  have e2 : Int.gcd (mobB L) ((gcdL 0 (mobF L) : Nat) : Int) = 1 := low.gcd
  rw [e2] at e1
  generalize ((gcdL 0 (mobF L) : Nat) : Int) = G at *
  refine em_of (e1 _) ?_
  simp [k2, notin_01, off, back_off]
  exact q
end
end My
namespace My
open PySem PySem.Spec PyProof.Rows L2 DL
/-! QN: the rest of right -/
theorem dNe_str' {x y : Str} : dNe (.str x) (.str y) = some (db (!(x == y))) := by
  unfold dNe
  rw [if_pos ⟨rfl, rfl, by show min 0 0 ≤ 100; decide⟩]
  rfl
theorem sumTo_range (f : Nat → Int) : ∀ n : Nat, ((List.range n).map f).sum = sumTo f n
  | 0 => rfl
  | n + 1 => by
    rw [List.range_succ, List.map_append, List.sum_append, sumTo_range f n]
    simp [sumTo]
theorem sumTo_bd {f : Nat → Int} {B : Nat} (h : ∀ i, i ≤ 60 → (f i).natAbs < 2 ^ B) : ∀ n, n ≤ 60 → (sumTo f n).natAbs < 2 ^ (B + n)
  | 0, _ => Nat.two_pow_pos _
  | n + 1, hn => pw_add (sumTo_bd h n (by omega)) (pw_le (h n (by omega)) (show B ≤ B + n by omega))
theorem sumTo_congr {f g : Nat → Int} (h : ∀ i, f i = g i) : ∀ n, sumTo f n = sumTo g n
  | 0 => rfl
  | n + 1 => by
    show sumTo f n + f n = sumTo g n + g n
    rw [sumTo_congr h n, h n]
section
variable {p ns : List Int} {n0 k : Nat} {CS cs0 : Cs} {QS : Out → Prop} {v0 v3 v4 v5 v6 v7 v8 v9 v10 v11 v12 v13 : Option Rv}
theorem r11_em (h : Rt p ns) (hc : CS[k]? = some (some ((mobF (0 :: toBin p)).map .int))) (ok : okCs CS = true) (q : ∀ v4, QS (.nx [v0, some (.dat (iL p)), some (.dat (iL ns)), v3, v4, v5, v6, v7, v8, v9, some (.own k), some (di (mobB (0 :: toBin p))), v12, v13] CS)) : Es r11 n0 [v0, some (.dat (iL p)), some (.dat (iL ns)), v3, v4, v5, v6, v7, v8, v9, some (.own k), some (di (mobB (0 :: toBin p))), v12, v13] CS QS := by
  have off := okCs_off (k := k) (n := 1) ok
  have k1000 : 1000 ≤ sizeLine := by decide +kernel
  have hl := h.pl
  have gl := h.gl
  have gb := h.gb
  have gB := h.gB
  have fact : ∀ n : Nat, hw n (mobF (0 :: toBin p)) = mobB (0 :: toBin p) * sumTo (fun i => hw (i : Int) p) n := fun n => by
    rw [(mob_ok (0 :: toBin p)).2 n, bs_sum, sumTo_congr (fun i => toBin_bs p)]
  generalize 0 :: toBin p = L at *
  unfold r11
  simp [len_eq, dAdd_int]
  refine ⟨sm_of (Nat.le_trans (show ((p.length : Int) + 4).natAbs ≤ 100 by omega) (by decide)), ?_⟩
  refine el_inv (k := 0) (fun i ρ cs' => cs' = CS ∧ ∃ v4, ρ = [v0, some (.dat (iL p)), some (.dat (iL ns)), v3, v4, v5, v6, v7, v8, v9, some (.own k), some (di (mobB L)), v12, v13]) ⟨rfl, _, rfl⟩ ?_ ?_
  · rintro i d ρ cs' hd ⟨rfl, v4, rfl⟩
    obtain ⟨hi, rfl⟩ := rng_get hd
    have hN : (0 : Int) + (i : Int) = (i : Int) := by omega
    have hx : ((0 : Int) + (i : Int)).natAbs < 2 ^ 6 := by
      have : (2 : Nat) ^ 6 = 64 := by decide
      omega
    have eb : hw ((0 : Int) + (i : Int)) (mobF L) = mobB L * sumTo (fun i => hw (i : Int) p) i := by rw [hN]; exact fact i
    have hi2 : ((0 : Int) + (i : Int)).toNat = i := by omega
    have hsb := sumTo_bd (f := fun i => hw (i : Int) p) (B := 34 + 7 * 25) (fun j hj => pw_le (hw_bd (m := 6) (by
      have : (2 : Nat) ^ 6 = 64 := by decide
      omega) h.hp) (by omega)) i (by omega)
    have hm : CMl (mobB L) (sumTo (fun i => hw (i : Int) p) i) := cml 200 (34 + 7 * 25 + i) gB hsb (by omega)
    generalize (0 : Int) + (i : Int) = N at *
    rw [eg_gNm, es_sIf]
    refine et_bor (i := 10) (k := k) (c := (mobF L).map .int) (ρ := [v0, some (.dat (iL p)), some (.dat (iL ns)), v3, some (.dat (.int N)), v5, v6, v7, v8, v9, some (.own k), some (di (mobB L)), v12, v13]) rfl hc ?_
    simp only [et_mTB, ev_mB, ev_mCall, ev_mCallF, ea_cons, ea_nil, ev_xVar, ev_xComp, ei_rg1]
    simp [hidR, inG, wipeR]
    refine em_of (lworth_eq hx gb (by omega)) ?_
    refine ⟨sm_of (Nat.le_trans (show N.natAbs ≤ 100 by omega) (by decide)), ?_⟩
    rw [hi2]
    refine ec_pure (fun _ => true) (fun d => match d with
      | .int i => .int (hw i p)
      | d => d) (fun d hd cs' => ?_) (by rw [rng_len]; simp; omega) ?_
    · obtain ⟨j, hj, rfl⟩ := rng_mem hd
      have hx : ((0 : Int) + (j : Int)).natAbs < 2 ^ 6 := by
        have : (2 : Nat) ^ 6 = 64 := by decide
        omega
      generalize (0 : Int) + (j : Int) = J at *
      simp [wipeR]
      refine em_of (lworth_eq hx h.hp (by omega)) ?_
      simp
    · rw [List.filter_eq_self.mpr (fun _ _ => rfl)]
      have e2 : ([] : List D) ++ (rngD 0 i).map (fun d => match d with
          | PyData.int i => PyData.int (hw i p)
          | d => d) = ((List.range i).map fun i : Nat => hw (i : Int) p).map PyData.int := by
        unfold rngD
        rw [List.nil_append, List.map_map, List.map_map]
        exact List.map_congr_left fun i _ => by simp
      rw [e2, sum_ints, sumTo_range]
      simp [fdNe_int, dMul_int hm, eb, off, back_off]
  · rintro ρ cs' ⟨rfl, v4, rfl⟩
    exact q v4
def shownAll (p ns : List Int) : D := .list [iL (toBin p), .tuple [iL (mobF ns), .int (mobB ns)], .tuple [iL (mobF (0 :: toBin p)), .int (mobB (0 :: toBin p))]]
theorem Rt.shown (h : Rt p ns) : dReprB [shownAll p ns] = some (.dat (.str (shownAll p ns).shown)) := by
  have a := (rb_ints (by omega) h.ha).dp (show 1 ≤ 2 by omega)
  have b := rb_tuple (rbs_cons (rb_ints (by omega) h.fb) (rbs_cons (rb_int (k := 1) (pw_le h.fB (by decide))) rbs_nil))
  have c := rb_tuple (rbs_cons (rb_ints (by omega) h.gb) (rbs_cons (rb_int (k := 1) (pw_le h.gB (by decide))) rbs_nil))
  have := h.la
  have := h.fl
  have := h.gl
  exact rp_list (rb_list (rbs_cons a (rbs_cons b (rbs_cons c rbs_nil)))) (by omega) (by omega)
structure C3 (p ns : List Int) (k : Nat) (CS : Cs) : Prop where
  a : CS[k]? = some (some ((toBin p).map .int))
  b : CS[k + 1]? = some (some ((mobF ns).map .int))
  c : CS[k + 2]? = some (some ((mobF (0 :: toBin p)).map .int))
  ok : okCs CS = true
  len : CS.length = k + 3
theorem off_else {cs : Cs} {k j : Nat} (h : j ≠ k) : (offL cs k 1)[j]? = cs[j]? := by
  rw [off_get]
  unfold inG
  rw [if_neg (by simp; omega)]
theorem r12_em (h : Rt p ns) (hc : C3 p ns k CS) (q : QS (.nx [v0, some (.dat (iL p)), some (.dat (iL ns)), some (.own k), v4, some (.dat (.str (shownAll p ns).shown)), v6, v7, some (.own (k + 1)), some (di (mobB ns)), some (.own (k + 2)), some (di (mobB (0 :: toBin p))), v12, v13] CS)) :
    Es r12 n0 [v0, some (.dat (iL p)), some (.dat (iL ns)), some (.own k), v4, v5, v6, v7, some (.own (k + 1)), some (di (mobB ns)), some (.own (k + 2)), some (di (mobB (0 :: toBin p))), v12, v13] CS QS := by
  have o1 := okCs_off (k := k) (n := 1) hc.ok
  have o2 := okCs_off (k := k + 1) (n := 1) o1
  have o3 := okCs_off (k := k + 2) (n := 1) o2
  have hb : (offL CS k 1)[k + 1]? = some (some ((mobF ns).map .int)) := by rw [off_else (by omega)]; exact hc.b
  have hcc : (offL (offL CS k 1) (k + 1) 1)[k + 2]? = some (some ((mobF (0 :: toBin p)).map .int)) := by rw [off_else (by omega), off_else (by omega)]; exact hc.c
  have hs := h.shown
  have k3 : 3 ≤ sizeLine := by rw [sizeLine_eq]; decide
  have k2 := two_fit
  unfold shownAll at hs q
  generalize 0 :: toBin p = L at *
  unfold r12
  rw [es_sSet]
  refine ev_bor (i := 3) (k := k) (c := (toBin p).map .int) (by rfl) hc.a ?_
  refine ev_bor (i := 8) (k := k + 1) (c := (mobF ns).map .int) (by simp [hidR, inG]) hb ?_
  refine ev_bor (i := 10) (k := k + 2) (c := (mobF L).map .int) (by simp [hidR, inG]) hcc ?_
  simp only [ev_mCall, ev_xLst, ev_xTup, ea_cons, ea_nil, ev_xVar]
  simp [hidR, inG, k2, k3]
  rw [hs]
  simp [BQ, noL, o1, o2, o3, back_off]
  exact q
def mk3 (p ns : List Int) (k : Nat) (CS : Cs) : Cs := mkCs "marked" k 3 CS
theorem mk3_ok (h : Rt p ns) (hc : C3 p ns k CS) : moMk "marked" [iL (toBin p), iL (mobF ns), iL (mobF (0 :: toBin p))] k 3 CS = some (.bool true, mkCs "marked" k 3 CS) ∧ okCs (mkCs "marked" k 3 CS) = true ∧ (mkCs "marked" k 3 CS).length = CS.length ∧ (mkCs "marked" k 3 CS).take k = CS.take k := by
  have k1000 : 1000 < sizeLine := by rw [sizeLine_eq]; decide
  have hla := h.la
  have hfl := h.fl
  have hgl := h.gl
  have hca := hc.a
  have hcb := hc.b
  have hcc := hc.c
  have ok := hc.ok
  generalize toBin p = A at *
  generalize mobF ns = B at *
  generalize mobF (0 :: A) = C at *
  have ai : ∀ l : List Int, (l.map PyData.int).all isIntD = true := fun l => by
    rw [List.all_map]
    exact List.all_eq_true.mpr fun _ _ => rfl
  have u : unMk [iL A, iL B, iL C] = true := by
    simp only [unMk, ai, List.length_map, Bool.true_and, Bool.and_true, Bool.and_eq_true, decide_eq_true_eq]
    omega
  have e : mkCs "marked" k 3 CS = ((CS.set k (some (A.map .int ++ [.str "marked"]))).set (k + 1) (some (B.map .int ++ [.str "marked"]))).set (k + 1 + 1) (some (C.map .int ++ [.str "marked"])) := by
    show mkCs "marked" (k + 1) 2 (CS.set k _) = _
    rw [hca]
    show mkCs "marked" (k + 1 + 1) 1 ((CS.set k _).set (k + 1) _) = _
    rw [List.getElem?_set_ne (by omega), hcb]
    show ((CS.set k _).set (k + 1) _).set (k + 1 + 1) _ = _
    rw [List.getElem?_set_ne (by omega), List.getElem?_set_ne (by omega), hcc]
    rfl
  refine ⟨?_, ?_, ?_, ?_⟩
  · unfold moMk
    rw [u]
    rfl
  · rw [e]
    exact okCs_set (okCs_set (okCs_set ok (noLs_mark A)) (noLs_mark B)) (noLs_mark C)
  · rw [e]
    simp
  · rw [e, List.take_set_of_le (by omega), List.take_set_of_le (by omega), List.take_set_of_le (by omega)]
theorem r13_em (h : Rt p ns) (hc : C3 p ns k CS) (q : ∀ CS', CS'.take k = CS.take k → QS (.nx [v0, some (.dat (iL p)), some (.dat (iL ns)), some (.own k), v4, some (.dat (.str (shownAll p ns).shown)), v6, v7, some (.own (k + 1)), v9, some (.own (k + 2)), v11, v12, v13] CS')) :
    Es r13 n0 [v0, some (.dat (iL p)), some (.dat (iL ns)), some (.own k), v4, some (.dat (.str (shownAll p ns).shown)), v6, v7, some (.own (k + 1)), v9, some (.own (k + 2)), v11, v12, v13] CS QS := by
  obtain ⟨m1, m2, m3, m4⟩ := mk3_ok h hc
  have k4 : 4 < sizeLine := by rw [sizeLine_eq]; decide
  have hs := h.shown
  have cl : cellsOf CS k 3 = some [iL (toBin p), iL (mobF ns), iL (mobF (0 :: toBin p))] := by
    have e : (CS.drop k).take 3 = [some ((toBin p).map .int), some ((mobF ns).map .int), some ((mobF (0 :: toBin p)).map .int)] := by
      have hl := hc.len
      have g : ∀ {j : Nat} {x : Option (List D)}, CS[j]? = some x → ∃ h : j < CS.length, CS[j] = x := fun q => List.getElem?_eq_some_iff.mp q
      obtain ⟨a1, a2⟩ := g hc.a
      obtain ⟨b1, b2⟩ := g hc.b
      obtain ⟨c1, c2⟩ := g hc.c
      rw [List.drop_eq_getElem_cons a1, List.drop_eq_getElem_cons b1, List.drop_eq_getElem_cons c1, a2, b2, c2]
      rfl
    unfold cellsOf
    rw [e]
    rfl
  have q1 := q _ m4
  generalize mkCs "marked" k 3 CS = CS' at *
  have ep := fun cs => h.parts (cs := cs)
  have ef := h.found m2
  have es := h.summed m2
  unfold shownAll at hs q1 ⊢
  unfold r13
  rw [es_sIf]
  simp only [et_mTOr, et_mTNot, et_mTru]
  refine ev_mark (k := k) (rs := [.own (k + 1), .own (k + 2)]) (cs1 := CS) (cs2 := CS') (ds := [iL (toBin p), iL (mobF ns), iL (mobF (0 :: toBin p))]) (d := .bool true) (by rfl) (by simp [isRun]) (by show 4 < _; exact k4) cl (by simp [allFl, noLs_ints]) hc.ok m1 ?_
  rw [← m3, List.take_length]
  generalize 0 :: toBin p = L at *
  simp
  refine em_of (ep _) ?_
  simp
  refine em_of ef ?_
  simp
  refine em_of es ?_
  simp
  refine ⟨by omega, ?_⟩
  rw [hs]
  simp [dNe_str']
  exact q1
theorem r14_em (h : Rt p ns) (hk : CS.take n0 = cs0) {v3 v5 v8 v9 v10 v11 : Option Rv} : Es r14 n0 [v0, some (.dat (iL p)), some (.dat (iL ns)), v3, v4, v5, some (.dat (.str (iL p).shown)), some (.dat (.str (iL ns).shown)), v8, v9, v10, v11, v12, v13] CS (DL.Fin n0 fun r c => r = db true ∧ c = cs0) := by
  have e1 := rp_list (rb_ints (by omega) h.hp) (by have := h.pl; omega) (by omega)
  have e2 := rp_list (rb_ints (by omega) h.hn) (by have := h.nl; omega) (by omega)
  unfold r14
  simp [e1, e2, dEq_str, hk]
end
theorem right_eq {p ns : List Int} {g : Nat} {cs : Cs} (h : Rt p ns) (ok : okCs cs = true) : m__law_right [.own g, .dat (iL p), .dat (iL ns)] cs = some (db true, cs) := by
  have oka : okCs (cs ++ [some ((toBin p).map .int)]) = true := okCs_ints (ls := [(toBin p).map .int]) ok fun l hl => by
    rw [List.mem_singleton.mp hl]; exact noLs_ints _
  have okb : okCs (cs ++ [some ((toBin p).map .int)] ++ [some ((mobF ns).map .int)]) = true := okCs_ints (ls := [(mobF ns).map .int]) oka fun l hl => by
    rw [List.mem_singleton.mp hl]; exact noLs_ints _
  have okc : okCs (cs ++ [some ((toBin p).map .int)] ++ [some ((mobF ns).map .int)] ++ [some ((mobF (0 :: toBin p)).map .int)]) = true := okCs_ints (ls := [(mobF (0 :: toBin p)).map .int]) okb fun l hl => by
    rw [List.mem_singleton.mp hl]; exact noLs_ints _
  have ha : (cs ++ [some ((toBin p).map PyData.int)])[cs.length]? = some (some ((toBin p).map .int)) := by simp
  have ha2 : (cs ++ [some ((toBin p).map PyData.int)] ++ [some ((mobF ns).map .int)])[cs.length]? = some (some ((toBin p).map .int)) := by simp
  have hb2 : (cs ++ [some ((toBin p).map PyData.int)] ++ [some ((mobF ns).map .int)])[cs.length + 1]? = some (some ((mobF ns).map .int)) := by simp
  have c3 : C3 p ns cs.length (cs ++ [some ((toBin p).map PyData.int)] ++ [some ((mobF ns).map .int)] ++ [some ((mobF (0 :: toBin p)).map .int)]) := ⟨by simp, by simp, by simp, okc, by simp⟩
  refine em_eq ?_
  unfold m__law_right
  rw [em_fnM, right_split]
  rw [es_sSeq]
  refine r1_em h ?_
  rw [nx_nx, es_sSeq]
  unfold r2
  rw [es_sOwn]
  simp only [ev_mCallF, ea_cons, ea_nil, ev_xVar]
  simp only [List.getElem?_cons_succ, List.getElem?_cons_zero, Option.join_some, wpd_some]
  refine ⟨rfl, ?_⟩
  refine em_of h.parts ?_
  rw [wpd_some, nx_nx, es_sSeq]
  refine r3_em h ha oka ?_
  rw [nx_nx, es_sSeq]
  refine r4_em h ha oka fun v4 => ?_
  rw [nx_nx, es_sSeq]
  unfold r5
  refine es_unp (c := (mobF ns).map .int) (d := .int (mobB ns)) (cs1 := cs ++ [some ((toBin p).map .int)]) ?_ (noLs_ints _) rfl oka ?_
  · refine ev_eq ?_
    simp
    refine em_of (h.found oka) ?_
    exact ⟨rfl, rfl⟩
  rw [nx_nx, es_sSeq, show (cs ++ [some ((toBin p).map PyData.int)]).length = cs.length + 1 by simp]
  refine r6_em h hb2 okb ?_
  rw [nx_nx, es_sSeq]
  refine r7_em h hb2 okb fun v4 => ?_
  rw [nx_nx, es_sSeq]
  refine r8_em h ha2 okb ?_
  rw [nx_nx, es_sSeq]
  unfold r9
  refine es_unp (c := (mobF (0 :: toBin p)).map .int) (d := .int (mobB (0 :: toBin p))) (cs1 := cs ++ [some ((toBin p).map .int)] ++ [some ((mobF ns).map .int)]) ?_ (noLs_ints _) rfl okb ?_
  · refine ev_eq ?_
    simp only [ev_mCallF, ea_cons, ea_nil, ev_xVar]
    simp only [List.getElem?_cons_succ, List.getElem?_cons_zero, Option.join_some, wpd_some]
    refine ⟨rfl, em_of (h.summed okb) ⟨rfl, rfl⟩⟩
  have e2 : (cs ++ [some ((toBin p).map PyData.int)] ++ [some ((mobF ns).map PyData.int)]).length = cs.length + 2 := by simp
  rw [nx_nx, es_sSeq, e2]
  refine r10_em h c3.c okc ?_
  rw [nx_nx, es_sSeq]
  refine r11_em h c3.c okc fun v4 => ?_
  rw [nx_nx, es_sSeq]
  refine r12_em h c3 ?_
  rw [nx_nx, es_sSeq]
  refine r13_em h c3 fun CS' hq => ?_
  rw [nx_nx]
  refine r14_em h (by rw [hq]; simp)
end My
namespace My
open PySem PySem.Spec PyProof.Rows L2 DL
/-! QO: the law -/
theorem ints_of {m : Int} : ∀ {ds : List D}, (∀ d ∈ ds, ∃ c : Int, d = .int c ∧ -m ≤ c ∧ c ≤ m) → ∃ l : List Int, ds = l.map .int ∧ ∀ c ∈ l, -m ≤ c ∧ c ≤ m
  | [], _ => ⟨[], rfl, nofun⟩
  | d :: ds, h => by
    obtain ⟨c, rfl, hc⟩ := h d (List.mem_cons_self ..)
    obtain ⟨l, rfl, hl⟩ := ints_of fun d hd => h d (List.mem_cons_of_mem _ hd)
    exact ⟨c :: l, rfl, fun x hx => by
      rcases List.mem_cons.mp hx with rfl | hx
      · exact hc
      · exact hl x hx⟩
theorem Gs.ok {b : Int} {c : List D} (g : Gs b c) : noLs c = true := by
  obtain ⟨g0, g1, g2, rfl, _⟩ := g.ex
  rfl
/-- [random(2 m + 1) - m for _ in range(n)] -/
theorem nums_em {k n i : Nat} {b m w : Int} {fn : ME} {ρ : Rho} {cs : Cs} {c : List D} {Q : List D → Cs → Prop} (hc : cs[k]? = some (some c)) (hg : Gs b c) (hb : b ≤ 10 ^ 19) (hn : n ≤ 1000) (hm : 0 ≤ m) (hm2 : m < 2 ^ 100) (hw : w = 2 * m + 1)
    (hf : ∀ (x : D) (cs' : Cs) (c' : List D) (b' : Int) (Q : Rv → Cs → Prop), b' ≤ 10 ^ 20 → cs'[k]? = some (some c') → Gs b' c' → (∀ (r : Int) (c2 : List D), -m ≤ r → r ≤ m → Gs (b' + 100) c2 → Q (di r) (cs'.set k (some c2))) → Ev fn (ρ.set i (some (.dat x))) cs' Q)
    (h : ∀ (l : List Int) (c' : List D), l.length = n → (∀ c ∈ l, -m ≤ c ∧ c ≤ m) → Gs (b + 100 * n) c' → Q (l.map .int) (cs.set k (some c'))) : Ec (gNm i) mYes fn (rngD 0 n) ρ cs [] Q := by
  refine draws (k := k) (w := 100) (P := fun d => ∃ c : Int, d = .int c ∧ -m ≤ c ∧ c ≤ m) hc hg hn (by omega) (fun x b' cs' c' Q hb' hc' hg' hq => ?_) fun ds c' hl hp hg' => ?_
  · exact hf x cs' c' b' Q (by omega) hc' hg' fun r c2 h1 h2 h3 => hq _ c2 ⟨r, rfl, h1, h2⟩ h3
  · obtain ⟨l, rfl, hl2⟩ := ints_of hp
    exact h l c' (by simpa using hl) hl2 hg'
theorem drawn_em {k : Nat} {b deg m : Int} {cs : Cs} {c : List D} {Q : Rv → Cs → Prop} (hc : cs[k]? = some (some c)) (hg : Gs b c) (hb : b ≤ 10 ^ 18) (hd : 0 ≤ deg) (hd2 : deg ≤ 20) (hm : 0 ≤ m) (hm2 : m < 2 ^ 90)
    (h : ∀ (l : List Int) (c' : List D), NF l → l.length ≤ 22 → (∀ c ∈ l, -m ≤ c ∧ c ≤ m) → Gs (b + 10000) c' → Q (.fr (l.map .int)) (cs.set k (some c'))) : Em m__law_drawn [.own k, .dat (.int deg), .dat (.int m)] cs Q := by
  have hm3 : CMl 2 m := cml 2 100 (by decide) (by
    have e : (2 : Nat) ^ 100 = 1267650600228229401496703205376 := by decide
    have e2 : (2 : Int) ^ 90 = 1237940039285380274899124224 := by decide
    omega)
  unfold m__law_drawn
  rw [em_fnM]
  unfold b__law_drawn
  simp [dAdd_int, dMul_int hm3]
  refine random_em hc hg (by omega) (by omega) (by
    have e : (2 : Int) ^ 10 ≤ 2 ^ 2900 := by decide +kernel
    omega) fun r c1 h0 h1 g1 => ?_
  simp
  refine ⟨sm_of (Nat.le_trans (show r.natAbs ≤ 100 by omega) (by decide)), ?_⟩
  have hk := (List.getElem?_eq_some_iff.mp hc).1
  refine nums_em (k := k) (m := m) (w := 2 * m + 1) (b := b + 100) (c := c1) (List.getElem?_set_self hk) g1 (by omega) (by omega) hm (by
    have e : (2 : Int) ^ 90 ≤ 2 ^ 100 := by decide
    omega) rfl (fun x cs' c' b' Q hb' hc' hg' hq => ?_) fun l c' hl hp hg' => ?_
  · simp [wipeR, dAdd_int, dMul_int hm3]
    refine random_em hc' hg' hb' (by omega) (by
      have e : (2 : Int) ^ 92 ≤ 2 ^ 2900 := by decide +kernel
      have e2 : (2 : Int) ^ 90 = 1237940039285380274899124224 := by decide
      have e3 : (2 : Int) ^ 92 = 4951760157141521099596496896 := by decide
      omega) fun r c2 q0 q1 q2 => ?_
    simp [dSub_int]
    exact hq _ c2 (by omega) (by omega) q2
  · simp
    refine em_of (lcut_eq (l := l) (by omega)) ?_
    simp
    exact h (cutI l) c' (cut_nf l) (by have := cut_len l; omega) (fun c hc => hp c (cut_mem hc)) (hg'.mono (by omega))
theorem n19_em {k n : Nat} {b : Int} {cs : Cs} {c : List D} {v0 v1 v2 v4 v5 v6 v7 : Option Rv} {Q : List D → Cs → Prop} (hc : cs[k]? = some (some c)) (hg : Gs b c) (hb : b ≤ 10 ^ 18) (hn : n ≤ 100)
    (h : ∀ (l : List Int) (c' : List D), l.length = n → Bd 34 l → Gs (b + 10000) c' → Q (l.map .int) (cs.set k (some c'))) : Ec (gNm 7) mYes (mB dSub (mCallF 2 m__law_random (aCons (xVar 3) (aCons (xC (.int 19)) aNil))) (xC (.int 9))) (rngD 0 n) (wipeR [v0, v1, v2, some (.own k), v4, v5, v6, v7] [7]) cs [] Q := by
  refine nums_em (k := k) (m := 9) (w := 19) hc hg (by omega) (by omega) (by decide) (by decide) rfl (fun x cs' c' b' Q hb' hc' hg' hq => ?_) fun l c' hl hp hg' => ?_
  · simp [wipeR]
    refine random_em hc' hg' hb' (by decide) (by decide +kernel) fun r c2 q0 q1 q2 => ?_
    simp [dSub_int]
    exact hq _ c2 (by omega) (by omega) q2
  · refine h l c' hl (fun c hc => ?_) (hg'.mono (by omega))
    have := hp c hc
    have e : (2 : Nat) ^ 34 = 17179869184 := by decide
    omega
theorem rep0 {r : Int} (h0 : 0 ≤ r) (h1 : r < 2) : dMul (.list [.int 0]) (.int r) = some (.fr ((List.replicate r.toNat (0 : Int)).map .int)) := by
  rw [dMul_list ⟨h0, by omega, by rw [sizeLine_eq]; simp; omega⟩]
  simp
structure In (k : Nat) (b : Int) (cs : Cs) : Prop where
  ex : ∃ c, cs[k]? = some (some c) ∧ Gs b c
  ok : okCs cs = true
theorem In.set {k : Nat} {b b' : Int} {cs : Cs} {c : List D} (h : In k b cs) (g : Gs b' c) : In k b' (cs.set k (some c)) := by
  obtain ⟨c0, h1, h2⟩ := h.ex
  exact ⟨⟨c, List.getElem?_set_self (List.getElem?_eq_some_iff.mp h1).1, g⟩, okCs_set h.ok g.ok⟩
theorem In.mono {k : Nat} {b b' : Int} {cs : Cs} (h : In k b cs) (hb : b ≤ b') : In k b' cs := by
  obtain ⟨c0, h1, h2⟩ := h.ex
  exact ⟨⟨c0, h1, h2.mono hb⟩, h.ok⟩
theorem bd10 {l : List Int} {m : Int} (hm : m ≤ 10 ^ 10) (h : ∀ c ∈ l, -m ≤ c ∧ c ≤ m) : Bd 34 l := fun c hc => by
  have := h c hc
  have e : (2 : Nat) ^ 34 = 17179869184 := by decide
  omega
noncomputable def lBody : MS := (sSeq (sSet 6 (mB dAdd (xComp (iRg1 (aCons (mCallF 2 m__law_random (aCons (xVar 3) (aCons (xC (.int 7)) aNil))) aNil)) (gNm 7) mYes (mB dSub (mCallF 2 m__law_random (aCons (xVar 3) (aCons (xC (.int 19)) aNil))) (xC (.int 9))) [7]) (mB dMul (xLst (aCons (xC (.int 0)) aNil)) (mCallF 2 m__law_random (aCons (xVar 3) (aCons (xC (.int 2)) aNil))))))
  (sIf (mTNot (mTru (mCallF 3 m__law_right (aCons (xVar 3) (aCons (xVar 5) (aCons (xVar 6) aNil)))))) (sRet (xC (.bool false))) sNil))
theorem lBody_em {n0 k : Nat} {b : Int} {p : List Int} {cs : Cs} {v0 v1 v2 v4 v6 v7 : Option Rv} {QS : Out → Prop} (i : In k b cs) (hb : b ≤ 10 ^ 17) (hp : Bd 34 p) (pn : NF p) (pl : p.length ≤ 25)
    (q : ∀ v6 cs', In k (b + 20000) cs' → QS (.nx [v0, v1, v2, some (.own k), v4, some (.dat (iL p)), v6, v7] cs')) : Es lBody n0 [v0, v1, v2, some (.own k), v4, some (.dat (iL p)), v6, v7] cs QS := by
  obtain ⟨c, hc, hg⟩ := i.ex
  have k1000 : 1000 ≤ sizeLine := by decide +kernel
  unfold lBody
  simp
  refine random_em hc hg (by omega) (by decide) (by decide +kernel) fun r c1 r0 r1 g1 => ?_
  have i1 := i.set g1
  generalize cs.set k (some c1) = cs1 at *
  obtain ⟨c1', hc1, hg1⟩ := i1.ex
  simp
  refine ⟨sm_of (Nat.le_trans (show r.natAbs ≤ 100 by omega) (by decide)), ?_⟩
  refine n19_em hc1 hg1 (by omega) (by omega) fun l c2 hl hbd g2 => ?_
  have i2 := i1.set g2
  generalize cs1.set k (some c2) = cs2 at *
  obtain ⟨c2', hc2, hg2⟩ := i2.ex

  refine ⟨by omega, ?_⟩
  refine random_em hc2 hg2 (by omega) (by decide) (by decide +kernel) fun r' c3 r0' r1' g3 => ?_
  have i3 := i2.set g3
  generalize cs2.set k (some c3) = cs3 at *
  simp
  rw [rep0 r0' r1']
  simp
  rw [← List.map_replicate, addL (by simp; omega)]
  simp
  rw [← List.map_replicate, ← List.map_append]
  refine em_of (right_eq (p := p) (ns := l ++ List.replicate r'.toNat 0) ⟨hp, pn, pl, fun c hc => ?_, by simp; omega⟩ i3.ok) ?_
  · rcases List.mem_append.mp hc with h | h
    · exact hbd c h
    · rw [(List.mem_replicate.mp h).2]
      decide
  · simp
    exact q _ _ (i3.mono (by omega))
end My
namespace My
open PySem PySem.Spec PyProof.Rows L2 DL
/-! QP: the law -/
theorem law_eq {ns : List Int} (hl : ns.length ≤ 63) (hb : ∀ z ∈ ns, Builtin.Int.intBits z ≤ 1048576) : m_law [.dat (.list (ns.map .int))] [] = some (.dat (.bool true), []) := by
  have k1000 : 1000 ≤ sizeLine := by decide +kernel
  have e10 : dPow (.int 10) (.int 10) = some (di 10000000000) := by
    show (if CPw 10 10 then _ else none) = _
    rw [if_pos (by decide +kernel)]
    rfl
  refine em_eq ?_
  unfold m_law
  rw [em_fnM]
  unfold b_law
  rw [es_sSeq, es_sFor]
  simp only [ei_rg1, ea_cons, ea_nil, ev_xC]
  simp
  refine ⟨by constructor <;> decide, ?_⟩
  refine el_inv (k := 0) (fun i ρ cs => okCs cs = true ∧ ∃ v1 v2 v3 v4 v5 v6 v7, ρ = [some (.dat (.list (ns.map .int))), v1, v2, v3, v4, v5, v6, v7]) ⟨rfl, none, none, none, none, none, none, none, rfl⟩ ?_ ?_
  · rintro i d ρ cs hd ⟨ok, v1, v2, v3, v4, v5, v6, v7, rfl⟩
    obtain ⟨j, hj, rfl⟩ := rng_mem (List.mem_of_getElem? hd)
    rw [eg_gNm, es_sSeq, es_sOwn]
    simp only [ev_mCallF, ea_cons, ea_nil, ev_xVar]
    simp
    refine generator_em (by omega) (by omega) hb (by omega) fun g gs => ?_
    have gs : Gs 3000 g := gs.mono (by omega)
    have i0 : In cs.length 3000 (cs ++ [some g]) := ⟨⟨g, by simp, gs⟩, okCs_ints (ls := [g]) ok fun l hl => by rw [List.mem_singleton.mp hl]; exact gs.ok⟩
    simp
    generalize cs ++ [some g] = cs0 at *
    generalize cs.length = k at *
    obtain ⟨c, hc, hg⟩ := i0.ex
    refine random_em hc hg (by omega) (by decide) (by decide +kernel) fun r1 c1 r10 r11 g1 => ?_
    have i1 := i0.set g1
    generalize cs0.set k (some c1) = cs1 at *
    refine em_of (products_eq (n := r1.toNat) (by omega) (by omega) i1.ok) ?_
    simp
    obtain ⟨c, hc, hg⟩ := i1.ex
    refine random_em hc hg (by omega) (by decide) (by decide +kernel) fun r2 c2 r20 r21 g2 => ?_
    have i2 := i1.set g2
    generalize cs1.set k (some c2) = cs2 at *
    simp [dAdd_int]
    refine em_of (products_eq (n := (13 + r2).toNat) (by omega) (by omega) i2.ok) ?_
    simp
    obtain ⟨c, hc, hg⟩ := i2.ex
    refine random_em hc hg (by omega) (by decide) (by decide +kernel) fun r3 c3 r30 r31 g3 => ?_
    have i3 := i2.set g3
    generalize cs2.set k (some c3) = cs3 at *
    simp [dAdd_int]
    refine ⟨sm_of (Nat.le_trans (show (8 + r3).natAbs ≤ 100 by omega) (by decide)), ?_⟩
    obtain ⟨c, hc, hg⟩ := i3.ex
    refine n19_em hc hg (by omega) (by omega) fun l4 c4 l4l l4b g4 => ?_
    have i4 := i3.set g4
    generalize cs3.set k (some c4) = cs4 at *
    obtain ⟨c, hc, hg⟩ := i4.ex
    refine random_em hc hg (by omega) (by decide) (by decide +kernel) fun r5 c5 r50 r51 g5 => ?_
    have i5 := i4.set g5
    generalize cs4.set k (some c5) = cs5 at *
    simp [dAdd_int]
    refine ⟨by omega, ?_⟩
    rw [addL (by simp; omega)]
    simp
    rw [show l4.map PyData.int ++ [PyData.int (1 + r5)] = (l4 ++ [1 + r5]).map .int by simp]
    have p1 : Bd 34 (l4 ++ [1 + r5]) := fun c hc => by
      rcases List.mem_append.mp hc with h | h
      · exact l4b c h
      · rw [List.mem_singleton.mp h]
        have e : (2 : Nat) ^ 34 = 17179869184 := by decide
        omega
    have p2 : NF (l4 ++ [1 + r5]) := nf_last.mpr (by omega)
    have p3 : (l4 ++ [1 + r5]).length ≤ 25 := by simp; omega
    generalize l4 ++ [1 + r5] = p at *
    obtain ⟨c, hc, hg⟩ := i5.ex
    refine random_em hc hg (by omega) (by decide) (by decide +kernel) fun r6 c6 r60 r61 g6 => ?_
    have i6 := i5.set g6
    generalize cs5.set k (some c6) = cs6 at *
    simp [dAdd_int]
    refine ⟨sm_of (Nat.le_trans (show (13 + r6).natAbs ≤ 100 by omega) (by decide)), ?_⟩
    obtain ⟨c, hc, hg⟩ := i6.ex
    refine n19_em hc hg (by omega) (by omega) fun l7 c7 l7l l7b g7 => ?_
    have i7 := i6.set g7
    generalize cs6.set k (some c7) = cs7 at *
    refine em_of (right_eq (p := p) (ns := l7) ⟨p1, p2, p3, l7b, by omega⟩ i7.ok) ?_
    simp
    obtain ⟨c, hc, hg⟩ := i7.ex
    refine drawn_em hc hg (by omega) (by decide) (by decide) (by decide) (by decide) fun q1 c8 q1n q1l q1b g8 => ?_
    have i8 := i7.set g8
    generalize cs7.set k (some c8) = cs8 at *
    rw [e10]
    simp
    obtain ⟨c, hc, hg⟩ := i8.ex
    refine drawn_em hc hg (by omega) (by decide) (by decide) (by decide) (by decide) fun q2 c9 q2n q2l q2b g9 => ?_
    have i9 := i8.set g9
    generalize cs8.set k (some c9) = cs9 at *
    simp
    refine ⟨by omega, ?_⟩
    refine el_inv (k := 0) (fun i ρ cs' => i ≤ 3 ∧ In k (100000 + 20000 * (i : Int)) cs' ∧ ∃ v1 v2 v4 v5 v6 v7, ρ = [some (.dat (.list (ns.map .int))), v1, v2, some (.own k), v4, v5, v6, v7]) ⟨by omega, i9.mono (by omega), _, _, _, _, _, _, rfl⟩ ?_ ?_
    · rintro i d ρ cs' hd ⟨hi, ii, v1, v2, v4, v5, v6, v7, rfl⟩
      rw [Nat.zero_add] at *
      have hd3 : i < 3 := (List.getElem?_eq_some_iff.mp hd).1
      have hx : ∃ p : List Int, d = iL p ∧ Bd 34 p ∧ NF p ∧ p.length ≤ 25 := by
        rcases List.mem_cons.mp (List.mem_of_getElem? hd) with rfl | h
        · exact ⟨q1, rfl, bd10 (by decide) q1b, q1n, by omega⟩
        rcases List.mem_cons.mp h with rfl | h
        · exact ⟨q2, rfl, bd10 (by decide) q2b, q2n, by omega⟩
        rcases List.mem_cons.mp h with rfl | h
        · exact ⟨[], rfl, nofun, by unfold NF; simp, by simp⟩
        · cases h
      obtain ⟨p, rfl, h1, h2, h3⟩ := hx
      rw [eg_gNm]
      refine lBody_em (b := 100000 + 20000 * (i : Int)) ii (by omega) h1 h2 h3 fun v6 cs2 i2 => ?_
      exact ⟨by omega, i2.mono (by omega), _, _, _, _, _, _, rfl⟩
    · rintro ρ cs' ⟨hi, ii, v1, v2, v4, v5, v6, v7, rfl⟩
      exact ⟨ii.ok, _, _, _, _, _, _, _, rfl⟩
  · rintro ρ cs ⟨ok, v1, v2, v3, v4, v5, v6, v7, rfl⟩
    rw [nx_nx]
    have f3 := falling_eq (z := 3) (n := 3) (cs := cs) rfl (by decide) ok
    have f2 := rising_eq (z := 2) (n := 2) (cs := cs) rfl (by decide) ok
    have f0 := falling_eq (z := 0) (n := 0) (cs := cs) rfl (by decide) ok
    have g1 := parts_eq (p := [0, 0, 1]) (B := 34) (cs := cs) (by intro c hc; simp at hc; rcases hc with rfl | rfl <;> decide) (by decide) (by decide) (by unfold NF; decide)
    have g2 := ofparts_eq (l := [0, 1, 2]) (B := 34) (cs := cs) (by intro c hc; simp at hc; rcases hc with rfl | rfl | rfl <;> decide) (by decide) (by decide) ok
    have g3 := summed_eq (p := [0, 1]) (B := 34) (cs := cs) (by intro c hc; simp at hc; rcases hc with rfl | rfl <;> decide) (by decide) (by decide) (by unfold NF; decide) ok
    have g4 := ofparts_eq (l := []) (B := 34) (cs := cs) nofun (by decide) (by decide) ok
    rw [show pby (-1) 3 = [0, 2, -3, 1] by decide +kernel] at f3
    rw [show pby 1 2 = [0, 1, 1] by decide +kernel] at f2
    rw [show pby (-1) 0 = [1] by decide +kernel] at f0
    rw [show toBin [0, 0, 1] = [0, 1, 2] by decide +kernel] at g1
    rw [show mobF [0, 1, 2] = [0, 0, 1] by decide +kernel, show mobB [0, 1, 2] = 1 by decide +kernel] at g2
    rw [show mobF (0 :: toBin [0, 1]) = [0, -1, 1] by decide +kernel, show mobB (0 :: toBin [0, 1]) = 2 by decide +kernel] at g3
    rw [show mobF [] = [] by decide +kernel, show mobB [] = 1 by decide +kernel] at g4
    have kk : ∀ n, n ≤ 1000 → n ≤ sizeLine := fun n h => Nat.le_trans h k1000
    have s0 : sameOk 5 (.list [iL [0, 2, -3, 1], iL [0, 1, 1], iL [1], iL [0, 1, 2], .tuple [iL [0, 0, 1], .int 1], .tuple [iL [0, -1, 1], .int 2], .tuple [iL [], .int 1]]) = true := by decide +kernel
    simp
    refine em_of f3 ?_
    refine em_of f2 ?_
    refine em_of f0 ?_
    refine ⟨kk _ (by decide), ?_⟩
    refine em_of g1 ?_
    refine ⟨kk _ (by decide), ?_⟩
    refine em_of g2 ?_
    refine ⟨kk _ (by decide), ?_⟩
    refine em_of g3 ?_
    refine em_of g4 ?_
    have a1 : 1 ≤ sizeLine := kk _ (by decide)
    have a2 : 2 ≤ sizeLine := kk _ (by decide)
    have a3 : 3 ≤ sizeLine := kk _ (by decide)
    have a4 : 4 ≤ sizeLine := kk _ (by decide)
    have a7 : 7 ≤ sizeLine := kk _ (by decide)
    clear kk k1000
    simp [dSub_int, a1, a2, a3, a4, a7]
    refine em_of (lsame_eq s0) ?_
    simp
end My
namespace My
open PySem PySem.Spec PyProof.Rows L2 DL
def top (i : Nat) : Stmt := PySem.Challenge.pw_eversame_k18_whole_falling_products.main.body.getD i (.Pass ⟨0, 0, 0, 0⟩)
abbrev s_is_whole : Stmt := top 6
abbrev s_is_count : Stmt := top 7
abbrev s_common_of : Stmt := top 9
abbrev s_is_poly : Stmt := top 11
abbrev s_check_poly : Stmt := top 12
abbrev s_cut_poly : Stmt := top 13
abbrev s_worth_in : Stmt := top 14
abbrev s_sum_in : Stmt := top 15
abbrev s_scaled_in : Stmt := top 16
abbrev s_product_in : Stmt := top 17
abbrev s_content_in : Stmt := top 19
abbrev s_lesser_parts : Stmt := top 20
abbrev s_check_many : Stmt := top 22
abbrev s_product_by : Stmt := top 23
abbrev s_falling_poly : Stmt := top 24
abbrev s_rising_poly : Stmt := top 25
abbrev s_differences_at_0 : Stmt := top 26
abbrev s_binomial_parts : Stmt := top 27
abbrev s_made_of_binomials : Stmt := top 28
abbrev s_of_binomial_parts : Stmt := top 29
abbrev s_summed_poly : Stmt := top 30
abbrev s__law_hash : Stmt := top 32
abbrev s__law_random : Stmt := top 33
abbrev s__law_cell : Stmt := top 34
abbrev s__law_generator : Stmt := top 35
abbrev s__law_same : Stmt := top 36
abbrev s__law_marked : Stmt := top 37
abbrev s__law_is_whole : Stmt := top 38
abbrev s__law_divisor : Stmt := top 39
abbrev s__law_cut : Stmt := top 40
abbrev s__law_is_poly : Stmt := top 41
abbrev s__law_worth : Stmt := top 42
abbrev s__law_drawn : Stmt := top 43
abbrev s__law_content : Stmt := top 44
abbrev s__law_binomial : Stmt := top 45
abbrev s__law_products_right : Stmt := top 46
abbrev s__law_right : Stmt := top 47
abbrev s_law : Stmt := top 48
structure Fre (P : Program) (K : PySem.W.Frag) (mg : Str → Option Value) : Prop where
  f_abs : mg "abs" = none
  f_all : mg "all" = none
  f_bool : mg "bool" = none
  f_enumerate : mg "enumerate" = none
  f_int : mg "int" = none
  f_isinstance : mg "isinstance" = none
  f_len : mg "len" = none
  f_list : mg "list" = none
  f_max : mg "max" = none
  f_range : mg "range" = none
  f_repr : mg "repr" = none
  f_str : mg "str" = none
  f_sum : mg "sum" = none
  f_tuple : mg "tuple" = none
  f_zip : mg "zip" = none
  sysd : SysD K
  digd : DigD K

abbrev Fu (K : PySem.W.Frag) (mg : Str → Option Value) (x : Str) (st : Stmt) : Prop := ∃ f fd, FunD K x x (defArgs st) (defBody st) (defScope st) [] [] f fd ∧ mg x = some (.ref f)
section
variable {P : Program} {w : World} {K : PySem.W.Frag} {mg : Str → Option Value} {base : Heap}
theorem sc_is_whole : FnScope ["value"] ["value"] (defScope s_is_whole) := ⟨rfl, rfl, rfl, by decide +kernel, rfl, by decide +kernel, by decide +kernel⟩
theorem ok_is_whole (fr : Fre P K mg) (F : Fu K mg "is_whole" s_is_whole)   : Cal P w K mg base 1 "is_whole" s_is_whole ["value"] m_is_whole :=
  cal_of (k := 0) (N := ["value"]) (b := b_is_whole) F sc_is_whole (fun _ _ _ _ _ _ us hl => match us, hl with | [_], _ => rfl) fun f cdv A outer s H hr rm =>
  (xs_one (xs_ret (xe_and (xe_isi rfl fr.f_isinstance rfl fr.f_int (by decide +kernel) (w_var 0)) (xe_and1 (xe_not (xe_isi rfl fr.f_isinstance rfl fr.f_bool (by decide +kernel) (w_var 0)))))))
theorem sc_is_count : FnScope ["value"] ["value"] (defScope s_is_count) := ⟨rfl, rfl, rfl, by decide +kernel, rfl, by decide +kernel, by decide +kernel⟩
theorem ok_is_count (fr : Fre P K mg) (F : Fu K mg "is_count" s_is_count) (C_is_whole : Cal P w K mg base 1 "is_whole" s_is_whole ["value"] m_is_whole)  : Cal P w K mg base 2 "is_count" s_is_count ["value"] m_is_count :=
  cal_of (k := 1) (N := ["value"]) (b := b_is_count) F sc_is_count (fun _ _ _ _ _ _ us hl => match us, hl with | [_], _ => rfl) fun f cdv A outer s H hr rm =>
  (xs_one (xs_ret (xe_and (w_call C_is_whole hr rm (xa_cons (w_var 0) xa_nil)) (xe_and1 (xe_ge rm (w_var 0) xe_int)))))
theorem sc_common_of : FnScope ["one", "other"] ["one", "other"] (defScope s_common_of) := ⟨rfl, rfl, rfl, by decide +kernel, rfl, by decide +kernel, by decide +kernel⟩
theorem ok_common_of (fr : Fre P K mg) (F : Fu K mg "common_of" s_common_of)   : Cal P w K mg base 1 "common_of" s_common_of ["one", "other"] m_common_of :=
  cal_of (k := 0) (N := ["one", "other"]) (b := b_common_of) F sc_common_of (fun _ _ _ _ _ _ us hl => match us, hl with | [_, _], _ => rfl) fun f cdv A outer s H hr rm =>
  (xs_cons (xs_parO (i := 0) (j := 1) rfl sc_common_of.nd (xao_dat (xe_abs rfl fr.f_abs (xa_cons (w_var 0) xa_nil)) (xao_dat (xe_abs rfl fr.f_abs (xa_cons (w_var 1) xa_nil)) xao_nil)))
  (xs_cons (w_while (xt_gt rm (w_var 1) xe_int) (xs_one (xs_parO (i := 0) (j := 1) rfl sc_common_of.nd (xao_dat (w_var 1) (xao_dat (xe_mod (w_var 0) (w_var 1)) xao_nil)))))
  (xs_one (xs_ret (w_var 0)))))
theorem sc_is_poly : FnScope ["value", "number"] ["value"] (defScope s_is_poly) := ⟨rfl, rfl, rfl, by decide +kernel, rfl, by decide +kernel, by decide +kernel⟩
theorem ok_is_poly (fr : Fre P K mg) (F : Fu K mg "is_poly" s_is_poly) (C_is_whole : Cal P w K mg base 1 "is_whole" s_is_whole ["value"] m_is_whole)  : Cal P w K mg base 2 "is_poly" s_is_poly ["value"] m_is_poly :=
  cal_of (k := 1) (N := ["value", "number"]) (b := b_is_poly) F sc_is_poly (fun _ _ _ _ _ _ us hl => match us, hl with | [_], _ => rfl) fun f cdv A outer s H hr rm =>
  (xs_cons (xs_if (xt_w (xw_or (xt_not (xt_of (xe_isi rfl fr.f_isinstance rfl fr.f_list (by decide +kernel) (w_var 0)))) (xw_or1 (xt_not (xt_of (xe_all rm rfl fr.f_all (xa_cons (xe_comp (own := [("number", 1)]) rfl sc_is_poly.nd (xi_seq (w_var 0)) (blkOk_by rfl) (fun _ _ _ _ _ => (w_gn 1 sc_is_poly.nd)) (fun _ _ _ _ _ => xts_nil) (fun _ _ _ _ _ => (w_call C_is_whole hr rm.blk (xa_cons (w_var 1) xa_nil)))) xa_nil))))))) (xs_one (xs_ret xe_bl)) xs_nil)
  (xs_one (xs_ret (xe_or (xe_eq rm (w_var 0) (xe_lst xa_nil)) (xe_or1 (xe_ne rm (xe_item (w_var 0) (xe_neg xe_int)) xe_int))))))
theorem sc_check_poly : FnScope ["poly"] ["poly"] (defScope s_check_poly) := ⟨rfl, rfl, rfl, by decide +kernel, rfl, by decide +kernel, by decide +kernel⟩
theorem ok_check_poly (fr : Fre P K mg) (F : Fu K mg "check_poly" s_check_poly) (C_is_poly : Cal P w K mg base 2 "is_poly" s_is_poly ["value"] m_is_poly)  : Cal P w K mg base 3 "check_poly" s_check_poly ["poly"] m_check_poly :=
  cal_of (k := 2) (N := ["poly"]) (b := b_check_poly) F sc_check_poly (fun _ _ _ _ _ _ us hl => match us, hl with | [_], _ => rfl) fun f cdv A outer s H hr rm =>
  (xs_one (xs_if (xt_not (xt_of (w_call C_is_poly hr rm (xa_cons (w_var 0) xa_nil)))) (xs_one xs_never) xs_nil))
theorem sc_cut_poly : FnScope ["numbers", "many"] ["numbers"] (defScope s_cut_poly) := ⟨rfl, rfl, rfl, by decide +kernel, rfl, by decide +kernel, by decide +kernel⟩
theorem ok_cut_poly (fr : Fre P K mg) (F : Fu K mg "cut_poly" s_cut_poly)   : Cal P w K mg base 1 "cut_poly" s_cut_poly ["numbers"] m_cut_poly :=
  cal_of (k := 0) (N := ["numbers", "many"]) (b := b_cut_poly) F sc_cut_poly (fun _ _ _ _ _ _ us hl => match us, hl with | [_], _ => rfl) fun f cdv A outer s H hr rm =>
  (xs_cons (w_set 1 sc_cut_poly.nd (xe_len rfl fr.f_len (xa_cons (w_var 0) xa_nil)))
  (xs_cons (w_while (xt_w (xw_and (xt_gt rm (w_var 1) xe_int) (xw_and1 (xt_eq rm (xe_item (w_var 0) (xe_sub (w_var 1) xe_int)) xe_int)))) (xs_one (w_set 1 sc_cut_poly.nd (xe_sub (w_var 1) xe_int))))
  (xs_one (xs_ret (xe_slice (w_var 0) xo_none (xo_some (w_var 1)))))))
theorem sc_worth_in : FnScope ["poly", "number", "found", "coefficient"] ["poly", "number"] (defScope s_worth_in) := ⟨rfl, rfl, rfl, by decide +kernel, rfl, by decide +kernel, by decide +kernel⟩
theorem ok_worth_in (fr : Fre P K mg) (F : Fu K mg "worth_in" s_worth_in)   : Cal P w K mg base 1 "worth_in" s_worth_in ["poly", "number"] m_worth_in :=
  cal_of (k := 0) (N := ["poly", "number", "found", "coefficient"]) (b := b_worth_in) F sc_worth_in (fun _ _ _ _ _ _ us hl => match us, hl with | [_, _], _ => rfl) fun f cdv A outer s H hr rm =>
  (xs_cons (w_set 2 sc_worth_in.nd xe_int)
  (xs_cons (w_for [3] (xi_seq (xe_rev (w_var 0))) (w_gn 3 sc_worth_in.nd) (xs_one (w_set 2 sc_worth_in.nd (xe_add (xe_mul (w_var 2) (w_var 1)) (w_var 3)))))
  (xs_one (xs_ret (w_var 2)))))
theorem sc_sum_in : FnScope ["one", "other", "found", "longer", "shorter", "at", "number"] ["one", "other"] (defScope s_sum_in) := ⟨rfl, rfl, rfl, by decide +kernel, rfl, by decide +kernel, by decide +kernel⟩
theorem ok_sum_in (fr : Fre P K mg) (F : Fu K mg "sum_in" s_sum_in) (C_cut_poly : Cal P w K mg base 1 "cut_poly" s_cut_poly ["numbers"] m_cut_poly)  : Cal P w K mg base 2 "sum_in" s_sum_in ["one", "other"] m_sum_in :=
  cal_of (k := 1) (N := ["one", "other", "found", "longer", "shorter", "at", "number"]) (b := b_sum_in) F sc_sum_in (fun _ _ _ _ _ _ us hl => match us, hl with | [_, _], _ => rfl) fun f cdv A outer s H hr rm =>
  (xs_cons (xs_asg (ws := [3, 4]) (xe_if (xt_ge rm (xe_len rfl fr.f_len (xa_cons (w_var 0) xa_nil)) (xe_len rfl fr.f_len (xa_cons (w_var 1) xa_nil))) (xe_tup (xa_cons (w_var 0) (xa_cons (w_var 1) xa_nil))) (xe_tup (xa_cons (w_var 1) (xa_cons (w_var 0) xa_nil)))) (xg_tup rfl (xgs_cons (w_gn 3 sc_sum_in.nd) (xgs_cons (w_gn 4 sc_sum_in.nd) xgs_nil))))
  (xs_cons (w_set 2 sc_sum_in.nd (xe_add (xe_comp (own := [("at", 5), ("number", 6)]) rfl sc_sum_in.nd (xi_enum rfl fr.f_enumerate (xa_cons (xe_slice (w_var 3) xo_none (xo_some (xe_len rfl fr.f_len (xa_cons (w_var 4) xa_nil)))) xa_nil)) (blkOk_by rfl) (fun _ _ _ _ _ => (xg_tup rfl (xgs_cons (w_gn 5 sc_sum_in.nd) (xgs_cons (w_gn 6 sc_sum_in.nd) xgs_nil)))) (fun _ _ _ _ _ => xts_nil) (fun _ _ _ _ _ => (xe_add (w_var 6) (xe_item (w_var 4) (w_var 5))))) (xe_slice (w_var 3) (xo_some (xe_len rfl fr.f_len (xa_cons (w_var 4) xa_nil))) xo_none)))
  (xs_one (xs_ret (w_call C_cut_poly hr rm (xa_cons (w_var 2) xa_nil))))))
theorem sc_scaled_in : FnScope ["poly", "number", "coefficient"] ["poly", "number"] (defScope s_scaled_in) := ⟨rfl, rfl, rfl, by decide +kernel, rfl, by decide +kernel, by decide +kernel⟩
theorem ok_scaled_in (fr : Fre P K mg) (F : Fu K mg "scaled_in" s_scaled_in)   : Cal P w K mg base 1 "scaled_in" s_scaled_in ["poly", "number"] m_scaled_in :=
  cal_of (k := 0) (N := ["poly", "number", "coefficient"]) (b := b_scaled_in) F sc_scaled_in (fun _ _ _ _ _ _ us hl => match us, hl with | [_, _], _ => rfl) fun f cdv A outer s H hr rm =>
  (xs_one (xs_ret (xe_if (xt_ne rm (w_var 1) xe_int) (xe_comp (own := [("coefficient", 2)]) rfl sc_scaled_in.nd (xi_seq (w_var 0)) (blkOk_by rfl) (fun _ _ _ _ _ => (w_gn 2 sc_scaled_in.nd)) (fun _ _ _ _ _ => xts_nil) (fun _ _ _ _ _ => (xe_mul (w_var 1) (w_var 2)))) (xe_lst xa_nil))))
theorem sc_product_in : FnScope ["one", "other", "found", "at", "number", "late", "coefficient"] ["one", "other"] (defScope s_product_in) := ⟨rfl, rfl, rfl, by decide +kernel, rfl, by decide +kernel, by decide +kernel⟩
theorem ok_product_in (fr : Fre P K mg) (F : Fu K mg "product_in" s_product_in)   : Cal P w K mg base 1 "product_in" s_product_in ["one", "other"] m_product_in :=
  cal_of (k := 0) (N := ["one", "other", "found", "at", "number", "late", "coefficient"]) (b := b_product_in) F sc_product_in (fun _ _ _ _ _ _ us hl => match us, hl with | [_, _], _ => rfl) fun f cdv A outer s H hr rm =>
  (xs_cons (xs_if (xt_w (xw_or (xt_eq rm (w_var 0) (xe_lst xa_nil)) (xw_or1 (xt_eq rm (w_var 1) (xe_lst xa_nil))))) (xs_one (xs_ret (xe_lst xa_nil))) xs_nil)
  (xs_cons (w_own 2 sc_product_in.nd (xe_mul (xe_lst (xa_cons xe_int xa_nil)) (xe_sub (xe_add (xe_len rfl fr.f_len (xa_cons (w_var 0) xa_nil)) (xe_len rfl fr.f_len (xa_cons (w_var 1) xa_nil))) xe_int)))
  (xs_cons (w_for [3, 4] (xi_enum rfl fr.f_enumerate (xa_cons (w_var 0) xa_nil)) (xg_tup rfl (xgs_cons (w_gn 3 sc_product_in.nd) (xgs_cons (w_gn 4 sc_product_in.nd) xgs_nil))) (xs_one (xs_if (xt_ne rm (w_var 4) xe_int) (xs_one (w_for [5, 6] (xi_enum rfl fr.f_enumerate (xa_cons (w_var 1) xa_nil)) (xg_tup rfl (xgs_cons (w_gn 5 sc_product_in.nd) (xgs_cons (w_gn 6 sc_product_in.nd) xgs_nil))) (xs_one (w_put 2 (xe_add (w_var 3) (w_var 5)) (xe_add (xe_item (w_var 2) (xe_add (w_var 3) (w_var 5))) (xe_mul (w_var 4) (w_var 6))))))) xs_nil)))
  (xs_one (xs_ret (w_var 2))))))
theorem sc_content_in : FnScope ["poly", "found", "coefficient"] ["poly"] (defScope s_content_in) := ⟨rfl, rfl, rfl, by decide +kernel, rfl, by decide +kernel, by decide +kernel⟩
theorem ok_content_in (fr : Fre P K mg) (F : Fu K mg "content_in" s_content_in) (C_common_of : Cal P w K mg base 1 "common_of" s_common_of ["one", "other"] m_common_of)  : Cal P w K mg base 2 "content_in" s_content_in ["poly"] m_content_in :=
  cal_of (k := 1) (N := ["poly", "found", "coefficient"]) (b := b_content_in) F sc_content_in (fun _ _ _ _ _ _ us hl => match us, hl with | [_], _ => rfl) fun f cdv A outer s H hr rm =>
  (xs_cons (w_set 1 sc_content_in.nd xe_int)
  (xs_cons (w_for [2] (xi_seq (w_var 0)) (w_gn 2 sc_content_in.nd) (xs_cons (w_set 1 sc_content_in.nd (w_call C_common_of hr rm (xa_cons (w_var 1) (xa_cons (xe_abs rfl fr.f_abs (xa_cons (w_var 2) xa_nil)) xa_nil))))
  (xs_one (xs_if (xt_eq rm (w_var 1) xe_int) (xs_one (xs_ret xe_int)) xs_nil))))
  (xs_one (xs_ret (w_var 1)))))
theorem sc_lesser_parts : FnScope ["multiplier", "polys", "part", "poly", "coefficient"] ["multiplier", "polys"] (defScope s_lesser_parts) := ⟨rfl, rfl, rfl, by decide +kernel, rfl, by decide +kernel, by decide +kernel⟩
theorem ok_lesser_parts (fr : Fre P K mg) (F : Fu K mg "lesser_parts" s_lesser_parts) (C_common_of : Cal P w K mg base 1 "common_of" s_common_of ["one", "other"] m_common_of) (C_content_in : Cal P w K mg base 2 "content_in" s_content_in ["poly"] m_content_in)  : Cal P w K mg base 3 "lesser_parts" s_lesser_parts ["multiplier", "polys"] m_lesser_parts :=
  cal_of (k := 2) (N := ["multiplier", "polys", "part", "poly", "coefficient"]) (b := b_lesser_parts) F sc_lesser_parts (fun _ _ _ _ _ _ us hl => match us, hl with | [_, _], _ => rfl) fun f cdv A outer s H hr rm =>
  (xs_cons (w_set 2 sc_lesser_parts.nd (xe_abs rfl fr.f_abs (xa_cons (w_var 0) xa_nil)))
  (xs_cons (w_for [3] (xi_seq (w_var 1)) (w_gn 3 sc_lesser_parts.nd) (xs_one (w_set 2 sc_lesser_parts.nd (w_call C_common_of hr rm (xa_cons (w_var 2) (xa_cons (w_call C_content_in hr rm (xa_cons (w_var 3) xa_nil)) xa_nil))))))
  (xs_one (xs_ret (xe_tupT (xat_cons (xe_div (w_var 0) (w_var 2)) (xat_cons (xe_compF (own := [("poly", 3)]) rfl sc_lesser_parts.nd (xi_seq (w_var 1)) (blkOk_by rfl) (fun _ _ _ _ _ => (w_gn 3 sc_lesser_parts.nd)) (fun _ _ _ _ _ => (xe_comp (own := [("coefficient", 4)]) rfl sc_lesser_parts.nd (xi_seq (w_var 3)) (blkOk_by rfl) (fun _ _ _ _ _ => (w_gn 4 sc_lesser_parts.nd)) (fun _ _ _ _ _ => xts_nil) (fun _ _ _ _ _ => (xe_div (w_var 4) (w_var 2)))))) xat_nil)))))))
theorem sc_check_many : FnScope ["many"] ["many"] (defScope s_check_many) := ⟨rfl, rfl, rfl, by decide +kernel, rfl, by decide +kernel, by decide +kernel⟩
theorem ok_check_many (fr : Fre P K mg) (F : Fu K mg "check_many" s_check_many) (C_is_count : Cal P w K mg base 2 "is_count" s_is_count ["value"] m_is_count)  : Cal P w K mg base 3 "check_many" s_check_many ["many"] m_check_many :=
  cal_of (k := 2) (N := ["many"]) (b := b_check_many) F sc_check_many (fun _ _ _ _ _ _ us hl => match us, hl with | [_], _ => rfl) fun f cdv A outer s H hr rm =>
  (xs_one (xs_if (xt_not (xt_of (w_call C_is_count hr rm (xa_cons (w_var 0) xa_nil)))) (xs_one xs_never) xs_nil))
theorem sc_product_by : FnScope ["many", "step", "found", "at"] ["many", "step"] (defScope s_product_by) := ⟨rfl, rfl, rfl, by decide +kernel, rfl, by decide +kernel, by decide +kernel⟩
theorem ok_product_by (fr : Fre P K mg) (F : Fu K mg "product_by" s_product_by) (C_product_in : Cal P w K mg base 1 "product_in" s_product_in ["one", "other"] m_product_in)  : Cal P w K mg base 2 "product_by" s_product_by ["many", "step"] m_product_by :=
  cal_of (k := 1) (N := ["many", "step", "found", "at"]) (b := b_product_by) F sc_product_by (fun _ _ _ _ _ _ us hl => match us, hl with | [_, _], _ => rfl) fun f cdv A outer s H hr rm =>
  (xs_cons (w_own 2 sc_product_by.nd (xe_lst (xa_cons xe_int xa_nil)))
  (xs_cons (w_for [3] (xi_range1 rfl fr.f_range (xa_cons (w_var 0) xa_nil)) (w_gn 3 sc_product_by.nd) (xs_one (w_reo 2 sc_product_by.nd (xe_bor (w_call C_product_in hr rm (xa_cons (w_var 2) (xa_cons (xe_lst (xa_cons (xe_mul (w_var 3) (w_var 1)) (xa_cons xe_int xa_nil))) xa_nil)))))))
  (xs_one (xs_ret (w_var 2)))))
theorem sc_falling_poly : FnScope ["many"] ["many"] (defScope s_falling_poly) := ⟨rfl, rfl, rfl, by decide +kernel, rfl, by decide +kernel, by decide +kernel⟩
theorem ok_falling_poly (fr : Fre P K mg) (F : Fu K mg "falling_poly" s_falling_poly) (C_check_many : Cal P w K mg base 3 "check_many" s_check_many ["many"] m_check_many) (C_product_by : Cal P w K mg base 2 "product_by" s_product_by ["many", "step"] m_product_by)  : Cal P w K mg base 4 "falling_poly" s_falling_poly ["many"] m_falling_poly :=
  cal_of (k := 3) (N := ["many"]) (b := b_falling_poly) F sc_falling_poly (fun _ _ _ _ _ _ us hl => match us, hl with | [_], _ => rfl) fun f cdv A outer s H hr rm =>
  (xs_cons (xs_expr (w_call C_check_many hr rm (xa_cons (w_var 0) xa_nil)))
  (xs_one (xs_ret (w_call C_product_by hr rm (xa_cons (w_var 0) (xa_cons (xe_neg xe_int) xa_nil))))))
theorem sc_rising_poly : FnScope ["many"] ["many"] (defScope s_rising_poly) := ⟨rfl, rfl, rfl, by decide +kernel, rfl, by decide +kernel, by decide +kernel⟩
theorem ok_rising_poly (fr : Fre P K mg) (F : Fu K mg "rising_poly" s_rising_poly) (C_check_many : Cal P w K mg base 3 "check_many" s_check_many ["many"] m_check_many) (C_product_by : Cal P w K mg base 2 "product_by" s_product_by ["many", "step"] m_product_by)  : Cal P w K mg base 4 "rising_poly" s_rising_poly ["many"] m_rising_poly :=
  cal_of (k := 3) (N := ["many"]) (b := b_rising_poly) F sc_rising_poly (fun _ _ _ _ _ _ us hl => match us, hl with | [_], _ => rfl) fun f cdv A outer s H hr rm =>
  (xs_cons (xs_expr (w_call C_check_many hr rm (xa_cons (w_var 0) xa_nil)))
  (xs_one (xs_ret (w_call C_product_by hr rm (xa_cons (w_var 0) (xa_cons xe_int xa_nil))))))
theorem sc_differences_at_0 : FnScope ["worths", "found", "row", "one", "late"] ["worths"] (defScope s_differences_at_0) := ⟨rfl, rfl, rfl, by decide +kernel, rfl, by decide +kernel, by decide +kernel⟩
theorem ok_differences_at_0 (fr : Fre P K mg) (F : Fu K mg "differences_at_0" s_differences_at_0)   : Cal P w K mg base 1 "differences_at_0" s_differences_at_0 ["worths"] m_differences_at_0 :=
  cal_of (k := 0) (N := ["worths", "found", "row", "one", "late"]) (b := b_differences_at_0) F sc_differences_at_0 (fun _ _ _ _ _ _ us hl => match us, hl with | [_], _ => rfl) fun f cdv A outer s H hr rm =>
  (xs_cons (xs_parO (i := 1) (j := 2) rfl sc_differences_at_0.nd (xao_own (xe_lst xa_nil) (xao_dat (xe_list1 rm rfl fr.f_list (xa_cons (w_var 0) xa_nil)) xao_nil)))
  (xs_cons (w_while (xt_ne rm (w_var 2) (xe_lst xa_nil)) (xs_cons (w_app 1 (xe_item (w_var 2) xe_int))
  (xs_one (xs_setC (i := 2) (own := [("one", 3), ("late", 4)]) rfl sc_differences_at_0.nd rfl rfl (sw_true rfl rfl rfl rfl) (xi_zip rfl fr.f_zip (xa_cons (w_var 2) (xa_cons (xe_slice (w_var 2) (xo_some xe_int) xo_none) xa_nil))) (blkOk_by rfl) (fun _ _ _ _ _ => (xg_tup rfl (xgs_cons (w_gn 3 sc_differences_at_0.nd) (xgs_cons (w_gn 4 sc_differences_at_0.nd) xgs_nil)))) (fun _ _ _ _ _ => xts_nil) (fun _ _ _ _ _ => (xe_sub (w_var 4) (w_var 3)))))))
  (xs_one (xs_ret (w_var 1)))))
theorem sc_binomial_parts : FnScope ["poly", "number"] ["poly"] (defScope s_binomial_parts) := ⟨rfl, rfl, rfl, by decide +kernel, rfl, by decide +kernel, by decide +kernel⟩
theorem ok_binomial_parts (fr : Fre P K mg) (F : Fu K mg "binomial_parts" s_binomial_parts) (C_check_poly : Cal P w K mg base 3 "check_poly" s_check_poly ["poly"] m_check_poly) (C_cut_poly : Cal P w K mg base 1 "cut_poly" s_cut_poly ["numbers"] m_cut_poly) (C_differences_at_0 : Cal P w K mg base 1 "differences_at_0" s_differences_at_0 ["worths"] m_differences_at_0) (C_worth_in : Cal P w K mg base 1 "worth_in" s_worth_in ["poly", "number"] m_worth_in)  : Cal P w K mg base 4 "binomial_parts" s_binomial_parts ["poly"] m_binomial_parts :=
  cal_of (k := 3) (N := ["poly", "number"]) (b := b_binomial_parts) F sc_binomial_parts (fun _ _ _ _ _ _ us hl => match us, hl with | [_], _ => rfl) fun f cdv A outer s H hr rm =>
  (xs_cons (xs_expr (w_call C_check_poly hr rm (xa_cons (w_var 0) xa_nil)))
  (xs_one (xs_ret (w_call C_cut_poly hr rm (xa_cons (w_call C_differences_at_0 hr rm (xa_cons (xe_comp (own := [("number", 1)]) rfl sc_binomial_parts.nd (xi_range1 rfl fr.f_range (xa_cons (xe_len rfl fr.f_len (xa_cons (w_var 0) xa_nil)) xa_nil)) (blkOk_by rfl) (fun _ _ _ _ _ => (w_gn 1 sc_binomial_parts.nd)) (fun _ _ _ _ _ => xts_nil) (fun _ _ _ _ _ => (w_call C_worth_in hr rm.blk (xa_cons (w_var 0) (xa_cons (w_var 1) xa_nil))))) xa_nil)) xa_nil)))))
theorem sc_made_of_binomials : FnScope ["numbers", "found", "below", "product", "at", "number", "parts"] ["numbers"] (defScope s_made_of_binomials) := ⟨rfl, rfl, rfl, by decide +kernel, rfl, by decide +kernel, by decide +kernel⟩
theorem ok_made_of_binomials (fr : Fre P K mg) (F : Fu K mg "made_of_binomials" s_made_of_binomials) (C_sum_in : Cal P w K mg base 2 "sum_in" s_sum_in ["one", "other"] m_sum_in) (C_scaled_in : Cal P w K mg base 1 "scaled_in" s_scaled_in ["poly", "number"] m_scaled_in) (C_product_in : Cal P w K mg base 1 "product_in" s_product_in ["one", "other"] m_product_in) (C_lesser_parts : Cal P w K mg base 3 "lesser_parts" s_lesser_parts ["multiplier", "polys"] m_lesser_parts)  : Cal P w K mg base 4 "made_of_binomials" s_made_of_binomials ["numbers"] m_made_of_binomials :=
  cal_of (k := 3) (N := ["numbers", "found", "below", "product", "at", "number", "parts"]) (b := b_made_of_binomials) F sc_made_of_binomials (fun _ _ _ _ _ _ us hl => match us, hl with | [_], _ => rfl) fun f cdv A outer s H hr rm =>
  (xs_cons (xs_par3 (i := 1) (j := 2) (l := 3) rfl sc_made_of_binomials.nd (xao_dat (xe_lst xa_nil) (xao_dat xe_int (xao_dat (xe_lst (xa_cons xe_int xa_nil)) xao_nil))))
  (xs_cons (w_for [4, 5] (xi_enum rfl fr.f_enumerate (xa_cons (w_var 0) xa_nil)) (xg_tup rfl (xgs_cons (w_gn 4 sc_made_of_binomials.nd) (xgs_cons (w_gn 5 sc_made_of_binomials.nd) xgs_nil))) (xs_cons (w_set 1 sc_made_of_binomials.nd (w_call C_sum_in hr rm (xa_cons (w_call C_scaled_in hr rm (xa_cons (w_var 1) (xa_cons (xe_max2 rm rfl fr.f_max (xa_cons xe_int (xa_cons (w_var 4) xa_nil))) xa_nil))) (xa_cons (w_call C_scaled_in hr rm (xa_cons (w_var 3) (xa_cons (w_var 5) xa_nil))) xa_nil))))
  (xs_cons (w_set 2 sc_made_of_binomials.nd (xe_mul (w_var 2) (xe_max2 rm rfl fr.f_max (xa_cons xe_int (xa_cons (w_var 4) xa_nil)))))
  (xs_one (w_set 3 sc_made_of_binomials.nd (w_call C_product_in hr rm (xa_cons (w_var 3) (xa_cons (xe_lst (xa_cons (xe_sub xe_int (w_var 4)) (xa_cons xe_int xa_nil))) xa_nil))))))))
  (w_pick 2 6 sc_made_of_binomials.nd (w_call C_lesser_parts hr rm (xa_cons (w_var 2) (xa_cons (xe_lst (xa_cons (w_var 1) xa_nil)) xa_nil))))))
theorem sc_of_binomial_parts : FnScope ["numbers", "number"] ["numbers"] (defScope s_of_binomial_parts) := ⟨rfl, rfl, rfl, by decide +kernel, rfl, by decide +kernel, by decide +kernel⟩
theorem ok_of_binomial_parts (fr : Fre P K mg) (F : Fu K mg "of_binomial_parts" s_of_binomial_parts) (C_is_whole : Cal P w K mg base 1 "is_whole" s_is_whole ["value"] m_is_whole) (C_made_of_binomials : Cal P w K mg base 4 "made_of_binomials" s_made_of_binomials ["numbers"] m_made_of_binomials)  : Cal P w K mg base 5 "of_binomial_parts" s_of_binomial_parts ["numbers"] m_of_binomial_parts :=
  cal_of (k := 4) (N := ["numbers", "number"]) (b := b_of_binomial_parts) F sc_of_binomial_parts (fun _ _ _ _ _ _ us hl => match us, hl with | [_], _ => rfl) fun f cdv A outer s H hr rm =>
  (xs_cons (xs_if (xt_w (xw_or (xt_not (xt_of (xe_isi rfl fr.f_isinstance rfl fr.f_list (by decide +kernel) (w_var 0)))) (xw_or1 (xt_not (xt_of (xe_all rm rfl fr.f_all (xa_cons (xe_comp (own := [("number", 1)]) rfl sc_of_binomial_parts.nd (xi_seq (w_var 0)) (blkOk_by rfl) (fun _ _ _ _ _ => (w_gn 1 sc_of_binomial_parts.nd)) (fun _ _ _ _ _ => xts_nil) (fun _ _ _ _ _ => (w_call C_is_whole hr rm.blk (xa_cons (w_var 1) xa_nil)))) xa_nil))))))) (xs_one xs_never) xs_nil)
  (xs_one (xs_ret (w_call C_made_of_binomials hr rm (xa_cons (w_var 0) xa_nil)))))
theorem sc_summed_poly : FnScope ["poly"] ["poly"] (defScope s_summed_poly) := ⟨rfl, rfl, rfl, by decide +kernel, rfl, by decide +kernel, by decide +kernel⟩
theorem ok_summed_poly (fr : Fre P K mg) (F : Fu K mg "summed_poly" s_summed_poly) (C_made_of_binomials : Cal P w K mg base 4 "made_of_binomials" s_made_of_binomials ["numbers"] m_made_of_binomials) (C_binomial_parts : Cal P w K mg base 4 "binomial_parts" s_binomial_parts ["poly"] m_binomial_parts)  : Cal P w K mg base 5 "summed_poly" s_summed_poly ["poly"] m_summed_poly :=
  cal_of (k := 4) (N := ["poly"]) (b := b_summed_poly) F sc_summed_poly (fun _ _ _ _ _ _ us hl => match us, hl with | [_], _ => rfl) fun f cdv A outer s H hr rm =>
  (xs_one (xs_ret (w_call C_made_of_binomials hr rm (xa_cons (xe_add (xe_lst (xa_cons xe_int xa_nil)) (w_call C_binomial_parts hr rm (xa_cons (w_var 0) xa_nil))) xa_nil))))
theorem sc__law_hash : FnScope ["seed", "index", "mixed"] ["seed", "index"] (defScope s__law_hash) := ⟨rfl, rfl, rfl, by decide +kernel, rfl, by decide +kernel, by decide +kernel⟩
theorem ok__law_hash (fr : Fre P K mg) (F : Fu K mg "_law_hash" s__law_hash)   : Cal P w K mg base 1 "_law_hash" s__law_hash ["seed", "index"] m__law_hash :=
  cal_of (k := 0) (N := ["seed", "index", "mixed"]) (b := b__law_hash) F sc__law_hash (fun _ _ _ _ _ _ us hl => match us, hl with | [_, _], _ => rfl) fun f cdv A outer s H hr rm =>
  (xs_cons (w_set 2 sc__law_hash.nd (xe_mod (xe_int1 rfl fr.f_int (xa_cons (xe_add (xe_add (xe_add (xe_mul (w_var 0) xe_int) (xe_mul (xe_mul xe_int (w_var 1)) (w_var 1))) (xe_mul xe_int (w_var 1))) xe_int) xa_nil)) xe_int))
  (xs_cons (w_set 2 sc__law_hash.nd (xe_mod (xe_int1 rfl fr.f_int (xa_cons (xe_add (xe_add (xe_mul (w_var 2) (w_var 2)) (xe_mul xe_int (w_var 1))) xe_int) xa_nil)) xe_int))
  (xs_one (xs_ret (xe_mod (xe_int1 rfl fr.f_int (xa_cons (xe_mul (w_var 2) xe_int) xa_nil)) xe_int)))))
theorem sc__law_random : FnScope ["generator", "bound", "drawn", "turn"] ["generator", "bound"] (defScope s__law_random) := ⟨rfl, rfl, rfl, by decide +kernel, rfl, by decide +kernel, by decide +kernel⟩
theorem ok__law_random (fr : Fre P K mg) (F : Fu K mg "_law_random" s__law_random) (C__law_hash : Cal P w K mg base 1 "_law_hash" s__law_hash ["seed", "index"] m__law_hash)  : Cal P w K mg base 2 "_law_random" s__law_random ["generator", "bound"] m__law_random :=
  cal_of (k := 1) (N := ["generator", "bound", "drawn", "turn"]) (b := b__law_random) F sc__law_random (fun _ _ _ _ _ _ us hl => match us, hl with | [_, _], _ => rfl) fun f cdv A outer s H hr rm =>
  (xs_cons (xs_if (xt_gt rm (xe_item (w_var 0) xe_int) xe_int) (xs_cons (w_set 2 sc__law_random.nd (xe_mod (xe_int1 rfl fr.f_int (xa_cons (xe_item (w_var 0) xe_int) xa_nil)) (w_var 1)))
  (xs_cons (w_put 0 xe_int (xe_div (xe_item (w_var 0) xe_int) (w_var 1)))
  (xs_one (xs_ret (w_var 2))))) xs_nil)
  (xs_cons (w_set 2 sc__law_random.nd xe_int)
  (xs_cons (w_for [3] (xi_range1 rfl fr.f_range (xa_cons (xe_add xe_int (xe_div (xe_bits (w_var 1)) xe_int)) xa_nil)) (w_gn 3 sc__law_random.nd) (xs_cons (w_put 0 xe_int (xe_add (xe_item (w_var 0) xe_int) xe_int))
  (xs_one (w_set 2 sc__law_random.nd (xe_add (xe_mul (w_var 2) xe_int) (w_call C__law_hash hr rm (xa_cons (xe_item (w_var 0) xe_int) (xa_cons (xe_item (w_var 0) xe_int) xa_nil))))))))
  (xs_one (xs_ret (xe_mod (xe_int1 rfl fr.f_int (xa_cons (w_var 2) xa_nil)) (w_var 1)))))))
theorem sc__law_cell : FnScope ["script", "index"] ["script", "index"] (defScope s__law_cell) := ⟨rfl, rfl, rfl, by decide +kernel, rfl, by decide +kernel, by decide +kernel⟩
theorem ok__law_cell (fr : Fre P K mg) (F : Fu K mg "_law_cell" s__law_cell)   : Cal P w K mg base 1 "_law_cell" s__law_cell ["script", "index"] m__law_cell :=
  cal_of (k := 0) (N := ["script", "index"]) (b := b__law_cell) F sc__law_cell (fun _ _ _ _ _ _ us hl => match us, hl with | [_, _], _ => rfl) fun f cdv A outer s H hr rm =>
  (xs_cons (xs_if (xt_lt rm (w_var 1) (xe_len rfl fr.f_len (xa_cons (w_var 0) xa_nil))) (xs_one (xs_ret (xe_item (w_var 0) (w_var 1)))) xs_nil)
  (xs_one (xs_ret (xe_mod (xe_sum rm rfl fr.f_sum (xa_cons (xe_slice (w_var 0) xo_none (xo_some xe_int)) xa_nil)) xe_int))))
theorem sc__law_generator : FnScope ["script", "index", "seed"] ["script", "index"] (defScope s__law_generator) := ⟨rfl, rfl, rfl, by decide +kernel, rfl, by decide +kernel, by decide +kernel⟩
theorem ok__law_generator (fr : Fre P K mg) (F : Fu K mg "_law_generator" s__law_generator) (C__law_cell : Cal P w K mg base 1 "_law_cell" s__law_cell ["script", "index"] m__law_cell)  : Cal P w K mg base 2 "_law_generator" s__law_generator ["script", "index"] m__law_generator :=
  cal_of (k := 1) (N := ["script", "index", "seed"]) (b := b__law_generator) F sc__law_generator (fun _ _ _ _ _ _ us hl => match us, hl with | [_, _], _ => rfl) fun f cdv A outer s H hr rm =>
  (xs_cons (w_set 2 sc__law_generator.nd (w_call C__law_cell hr rm (xa_cons (w_var 0) (xa_cons (w_var 1) xa_nil))))
  (xs_one (xs_ret (xe_lst (xa_cons (xe_mod (xe_int1 rfl fr.f_int (xa_cons (xe_max2 rm rfl fr.f_max (xa_cons (xe_sub (w_var 2) (xe_pow xe_int xe_int)) (xa_cons xe_int xa_nil))) xa_nil)) (xe_pow (xe_pow xe_int xe_int) xe_int)) (xa_cons (xe_mod (xe_int1 rfl fr.f_int (xa_cons (w_var 2) xa_nil)) xe_int) (xa_cons (xe_mul xe_int (w_var 1)) xa_nil)))))))
theorem sc__law_same : FnScope ["told", "due", "is_like", "one", "other"] ["told", "due"] (defScope s__law_same) := ⟨rfl, rfl, rfl, by decide +kernel, rfl, by decide +kernel, by decide +kernel⟩
theorem ok__law_same (fr : Fre P K mg) (F : Fu K mg "_law_same" s__law_same)   : Cal P w K mg base 6 "_law_same" s__law_same ["told", "due"] m__law_same :=
  cal_rec (k := 0) (N := ["told", "due", "is_like", "one", "other"]) (b := b__law_same) 6 F sc__law_same (fun _ _ _ _ _ _ us hl => match us, hl with | [_, _], _ => rfl) fun l self C_self f cdv A outer s H hr rm =>
  (xs_cons (xs_if (xt_of (xe_isiT rfl fr.f_isinstance (pt_cons rfl fr.f_list (by decide +kernel) (pt_cons rfl fr.f_tuple (by decide +kernel) pt_nil)) (w_var 1))) (xs_cons (w_set 2 sc__law_same.nd (xe_and (xe_eq rm (xe_isi rfl fr.f_isinstance rfl fr.f_list (by decide +kernel) (w_var 0)) (xe_isi rfl fr.f_isinstance rfl fr.f_list (by decide +kernel) (w_var 1))) (xe_and1 (xe_eq rm (xe_isi rfl fr.f_isinstance rfl fr.f_tuple (by decide +kernel) (w_var 0)) (xe_isi rfl fr.f_isinstance rfl fr.f_tuple (by decide +kernel) (w_var 1))))))
  (xs_one (xs_ret (xe_and (w_var 2) (xe_and (xe_eq rm (xe_len rfl fr.f_len (xa_cons (w_var 0) xa_nil)) (xe_len rfl fr.f_len (xa_cons (w_var 1) xa_nil))) (xe_and1 (xe_all rm rfl fr.f_all (xa_cons (xe_comp (own := [("one", 3), ("other", 4)]) rfl sc__law_same.nd (xi_zip rfl fr.f_zip (xa_cons (w_var 0) (xa_cons (w_var 1) xa_nil))) (blkOk_by rfl) (fun _ _ _ _ _ => (xg_tup rfl (xgs_cons (w_gn 3 sc__law_same.nd) (xgs_cons (w_gn 4 sc__law_same.nd) xgs_nil)))) (fun _ _ _ _ _ => xts_nil) (fun _ _ _ _ _ => (w_call C_self hr rm.blk (xa_cons (w_var 3) (xa_cons (w_var 4) xa_nil)) (hj := Nat.le_refl _)))) xa_nil)))))))) xs_nil)
  (xs_cons (xs_if (xt_w (xw_or (xt_of (xe_isiT rfl fr.f_isinstance (pt_cons rfl fr.f_list (by decide +kernel) (pt_cons rfl fr.f_tuple (by decide +kernel) pt_nil)) (w_var 0))) (xw_or1 (xt_ne rm (xe_is (w_var 0) xe_non) (xe_is (w_var 1) xe_non))))) (xs_one (xs_ret xe_bl)) xs_nil)
  (xs_cons (w_set 2 sc__law_same.nd (xe_and (xe_eq rm (xe_isi rfl fr.f_isinstance rfl fr.f_bool (by decide +kernel) (w_var 0)) (xe_isi rfl fr.f_isinstance rfl fr.f_bool (by decide +kernel) (w_var 1))) (xe_and1 (xe_eq rm (xe_isi rfl fr.f_isinstance rfl fr.f_int (by decide +kernel) (w_var 0)) (xe_isi rfl fr.f_isinstance rfl fr.f_int (by decide +kernel) (w_var 1))))))
  (xs_one (xs_ret (xe_and (w_var 2) (xe_and (xe_eq rm (xe_isi rfl fr.f_isinstance rfl fr.f_str (by decide +kernel) (w_var 0)) (xe_isi rfl fr.f_isinstance rfl fr.f_str (by decide +kernel) (w_var 1))) (xe_and1 (xe_eq rm (w_var 0) (w_var 1))))))))))
theorem sc__law_marked : FnScope ["told", "kept", "item"] ["told"] (defScope s__law_marked) := ⟨rfl, rfl, rfl, by decide +kernel, rfl, by decide +kernel, by decide +kernel⟩
theorem ok__law_marked (fr : Fre P K mg) (F : Fu K mg "_law_marked" s__law_marked)   : Cal P w K mg base 6 "_law_marked" s__law_marked ["told"] m__law_marked :=
  cal_rec (k := 0) (N := ["told", "kept", "item"]) (b := b__law_marked) 6 F sc__law_marked (fun _ _ _ _ _ _ us hl => match us, hl with | [_], _ => rfl) fun l self C_self f cdv A outer s H hr rm =>
  (xs_cons (xs_if (xt_bor (xt_of (xe_isi rfl fr.f_isinstance rfl fr.f_list (by decide +kernel) (w_var 0)))) (xs_cons (xs_if (xt_bor (xt_w (xw_and (xt_ne rm (w_var 0) (xe_lst xa_nil)) (xw_and1 (xt_eq rm (xe_item (w_var 0) (xe_neg xe_int)) xe_str))))) (xs_one (xs_ret xe_bl)) xs_nil)
  (xs_cons (xs_setCB (i := 1) (j := 0) (own := [("item", 2)]) rfl sc__law_marked.nd rfl rfl (sw_true rfl rfl rfl rfl) (xi_seq (w_var 0)) (blkOk_by rfl) (fun _ _ _ _ _ => (w_gn 2 sc__law_marked.nd)) (fun _ _ _ _ _ => xts_nil) (fun _ _ _ _ _ => (w_call C_self hr rm.blk (xa_cons (w_var 2) xa_nil) (hj := Nat.le_refl _))))
  (xs_cons (w_app 0 xe_str)
  (xs_one (xs_ret (xe_notin rm xe_bl (w_var 1))))))) xs_nil)
  (xs_one (xs_ret (xe_bor (xe_or (xe_not (xe_isi rfl fr.f_isinstance rfl fr.f_tuple (by decide +kernel) (w_var 0))) (xe_or1 (xe_notin rm xe_bl (xe_comp (own := [("item", 2)]) rfl sc__law_marked.nd (xi_seq (w_var 0)) (blkOk_by rfl) (fun _ _ _ _ _ => (w_gn 2 sc__law_marked.nd)) (fun _ _ _ _ _ => xts_nil) (fun _ _ _ _ _ => (w_call C_self hr rm.blk (xa_cons (w_var 2) xa_nil) (hj := Nat.le_refl _)))))))))))
theorem okO__law_marked (fr : Fre P K mg) (F : Fu K mg "_law_marked" s__law_marked) (C__law_marked : Cal P w K mg base 6 "_law_marked" s__law_marked ["told"] m__law_marked) : CalO P w K mg base 7 "_law_marked" s__law_marked ["told"] (MkB mkt1__law_marked mkt2__law_marked 2 1 mke__law_marked [2] mks5__law_marked 3) :=
  calO_of (k := 6) (N := ["told", "kept", "item"]) (T2 := tS K (sRet (xC (.bool false)))) (TL := tS K (sRet (mBor 0 (mOr (mU dNot (mU (dIsi "tuple") (xVar 0))) (mB dNotIn (xC (.bool false)) (xComp (iSeq (xVar 0)) (gNm 2) mYes (mCallF 1 m__law_marked (aCons (xVar 2) aNil)) [2])))))) F sc__law_marked rfl (fun _ _ _ _ _ _ us hl => match us, hl with | [_], _ => rfl) fun f cdv A outer s H hr rm =>
  mk_pss (t1 := mkt1__law_marked) (t2 := mkt2__law_marked) (e := mke__law_marked) (s5 := mks5__law_marked) (xt_bor (xt_of (xe_isi rfl fr.f_isinstance rfl fr.f_list (by decide +kernel) (w_var 0)))) (xt_bor (xt_w (xw_and (xt_ne rm (w_var 0) (xe_lst xa_nil)) (xw_and1 (xt_eq rm (xe_item (w_var 0) (xe_neg xe_int)) xe_str))))) (xs_one (xs_ret xe_bl)) (ps_setG (own := [("item", 2)]) rfl sc__law_marked.nd rfl rfl (sw_true rfl rfl rfl rfl) rfl (by first | exact Or.inl rfl | exact Or.inr (Or.inl rfl) | exact Or.inr (Or.inr rfl)) (blkOk_by rfl) (by simp) (fun _ _ _ _ _ => pg_name sc__law_marked.nd rfl (by first | exact Or.inl rfl | exact Or.inr rfl)) (fun _ _ _ _ _ => (w_call C__law_marked hr rm.blk (xa_cons (w_var 2) xa_nil) (hj := Nat.le_refl _)))) (ps_appS rfl (by first | exact Or.inl rfl | exact Or.inr (Or.inl rfl) | exact Or.inr (Or.inr rfl))) (xs_ret (xe_notin rm xe_bl (w_var 1))) (xs_ret (xe_bor (xe_or (xe_not (xe_isi rfl fr.f_isinstance rfl fr.f_tuple (by decide +kernel) (w_var 0))) (xe_or1 (xe_notin rm xe_bl (xe_comp (own := [("item", 2)]) rfl sc__law_marked.nd (xi_seq (w_var 0)) (blkOk_by rfl) (fun _ _ _ _ _ => (w_gn 2 sc__law_marked.nd)) (fun _ _ _ _ _ => xts_nil) (fun _ _ _ _ _ => (w_call C__law_marked hr rm.blk (xa_cons (w_var 2) xa_nil) (hj := Nat.le_refl _)))))))))
theorem sc__law_is_whole : FnScope ["value"] ["value"] (defScope s__law_is_whole) := ⟨rfl, rfl, rfl, by decide +kernel, rfl, by decide +kernel, by decide +kernel⟩
theorem ok__law_is_whole (fr : Fre P K mg) (F : Fu K mg "_law_is_whole" s__law_is_whole)   : Cal P w K mg base 1 "_law_is_whole" s__law_is_whole ["value"] m__law_is_whole :=
  cal_of (k := 0) (N := ["value"]) (b := b__law_is_whole) F sc__law_is_whole (fun _ _ _ _ _ _ us hl => match us, hl with | [_], _ => rfl) fun f cdv A outer s H hr rm =>
  (xs_one (xs_ret (xe_and (xe_isi rfl fr.f_isinstance rfl fr.f_int (by decide +kernel) (w_var 0)) (xe_and1 (xe_not (xe_isi rfl fr.f_isinstance rfl fr.f_bool (by decide +kernel) (w_var 0)))))))
theorem sc__law_divisor : FnScope ["one", "other"] ["one", "other"] (defScope s__law_divisor) := ⟨rfl, rfl, rfl, by decide +kernel, rfl, by decide +kernel, by decide +kernel⟩
theorem ok__law_divisor (fr : Fre P K mg) (F : Fu K mg "_law_divisor" s__law_divisor)   : Cal P w K mg base 1 "_law_divisor" s__law_divisor ["one", "other"] m__law_divisor :=
  cal_of (k := 0) (N := ["one", "other"]) (b := b__law_divisor) F sc__law_divisor (fun _ _ _ _ _ _ us hl => match us, hl with | [_, _], _ => rfl) fun f cdv A outer s H hr rm =>
  (xs_cons (xs_parO (i := 0) (j := 1) rfl sc__law_divisor.nd (xao_dat (xe_abs rfl fr.f_abs (xa_cons (w_var 0) xa_nil)) (xao_dat (xe_abs rfl fr.f_abs (xa_cons (w_var 1) xa_nil)) xao_nil)))
  (xs_cons (w_while (xt_gt rm (w_var 1) xe_int) (xs_one (xs_parO (i := 0) (j := 1) rfl sc__law_divisor.nd (xao_dat (w_var 1) (xao_dat (xe_mod (xe_int1 rfl fr.f_int (xa_cons (w_var 0) xa_nil)) (w_var 1)) xao_nil)))))
  (xs_one (xs_ret (w_var 0)))))
theorem sc__law_cut : FnScope ["numbers", "many"] ["numbers"] (defScope s__law_cut) := ⟨rfl, rfl, rfl, by decide +kernel, rfl, by decide +kernel, by decide +kernel⟩
theorem ok__law_cut (fr : Fre P K mg) (F : Fu K mg "_law_cut" s__law_cut)   : Cal P w K mg base 1 "_law_cut" s__law_cut ["numbers"] m__law_cut :=
  cal_of (k := 0) (N := ["numbers", "many"]) (b := b__law_cut) F sc__law_cut (fun _ _ _ _ _ _ us hl => match us, hl with | [_], _ => rfl) fun f cdv A outer s H hr rm =>
  (xs_cons (w_set 1 sc__law_cut.nd (xe_len rfl fr.f_len (xa_cons (w_var 0) xa_nil)))
  (xs_cons (w_while (xt_w (xw_and (xt_gt rm (w_var 1) xe_int) (xw_and1 (xt_eq rm (xe_item (w_var 0) (xe_sub (w_var 1) xe_int)) xe_int)))) (xs_one (w_set 1 sc__law_cut.nd (xe_sub (w_var 1) xe_int))))
  (xs_one (xs_ret (xe_list1 rm rfl fr.f_list (xa_cons (xe_slice (w_var 0) xo_none (xo_some (w_var 1))) xa_nil))))))
theorem sc__law_is_poly : FnScope ["value", "number"] ["value"] (defScope s__law_is_poly) := ⟨rfl, rfl, rfl, by decide +kernel, rfl, by decide +kernel, by decide +kernel⟩
theorem ok__law_is_poly (fr : Fre P K mg) (F : Fu K mg "_law_is_poly" s__law_is_poly) (C__law_is_whole : Cal P w K mg base 1 "_law_is_whole" s__law_is_whole ["value"] m__law_is_whole)  : Cal P w K mg base 2 "_law_is_poly" s__law_is_poly ["value"] m__law_is_poly :=
  cal_of (k := 1) (N := ["value", "number"]) (b := b__law_is_poly) F sc__law_is_poly (fun _ _ _ _ _ _ us hl => match us, hl with | [_], _ => rfl) fun f cdv A outer s H hr rm =>
  (xs_cons (xs_if (xt_w (xw_or (xt_not (xt_of (xe_isi rfl fr.f_isinstance rfl fr.f_list (by decide +kernel) (w_var 0)))) (xw_or1 (xt_ne rm (xe_comp (own := [("number", 1)]) rfl sc__law_is_poly.nd (xi_seq (w_var 0)) (blkOk_by rfl) (fun _ _ _ _ _ => (w_gn 1 sc__law_is_poly.nd)) (fun _ _ _ _ _ => (xts_one (xt_not (xt_of (w_call C__law_is_whole hr rm.blk (xa_cons (w_var 1) xa_nil)))))) (fun _ _ _ _ _ => (w_var 1))) (xe_lst xa_nil))))) (xs_one (xs_ret xe_bl)) xs_nil)
  (xs_one (xs_ret (xe_or (xe_eq rm (w_var 0) (xe_lst xa_nil)) (xe_or1 (xe_ne rm (xe_item (w_var 0) (xe_neg xe_int)) xe_int))))))
theorem sc__law_worth : FnScope ["poly", "number", "found", "coefficient"] ["poly", "number"] (defScope s__law_worth) := ⟨rfl, rfl, rfl, by decide +kernel, rfl, by decide +kernel, by decide +kernel⟩
theorem ok__law_worth (fr : Fre P K mg) (F : Fu K mg "_law_worth" s__law_worth)   : Cal P w K mg base 1 "_law_worth" s__law_worth ["poly", "number"] m__law_worth :=
  cal_of (k := 0) (N := ["poly", "number", "found", "coefficient"]) (b := b__law_worth) F sc__law_worth (fun _ _ _ _ _ _ us hl => match us, hl with | [_, _], _ => rfl) fun f cdv A outer s H hr rm =>
  (xs_cons (w_set 2 sc__law_worth.nd xe_int)
  (xs_cons (w_for [3] (xi_seq (xe_rev (w_var 0))) (w_gn 3 sc__law_worth.nd) (xs_one (w_set 2 sc__law_worth.nd (xe_add (xe_mul (w_var 2) (w_var 1)) (w_var 3)))))
  (xs_one (xs_ret (w_var 2)))))
theorem sc__law_drawn : FnScope ["generator", "degree", "far", "at"] ["generator", "degree", "far"] (defScope s__law_drawn) := ⟨rfl, rfl, rfl, by decide +kernel, rfl, by decide +kernel, by decide +kernel⟩
theorem ok__law_drawn (fr : Fre P K mg) (F : Fu K mg "_law_drawn" s__law_drawn) (C__law_cut : Cal P w K mg base 1 "_law_cut" s__law_cut ["numbers"] m__law_cut) (C__law_random : Cal P w K mg base 2 "_law_random" s__law_random ["generator", "bound"] m__law_random)  : Cal P w K mg base 3 "_law_drawn" s__law_drawn ["generator", "degree", "far"] m__law_drawn :=
  cal_of (k := 2) (N := ["generator", "degree", "far", "at"]) (b := b__law_drawn) F sc__law_drawn (fun _ _ _ _ _ _ us hl => match us, hl with | [_, _, _], _ => rfl) fun f cdv A outer s H hr rm =>
  (xs_one (xs_ret (w_call C__law_cut hr rm (xa_cons (xe_comp (own := [("at", 3)]) rfl sc__law_drawn.nd (xi_range1 rfl fr.f_range (xa_cons (w_call C__law_random hr rm (xa_cons (w_var 0) (xa_cons (xe_add (w_var 1) xe_int) xa_nil))) xa_nil)) (blkOk_by rfl) (fun _ _ _ _ _ => (w_gn 3 sc__law_drawn.nd)) (fun _ _ _ _ _ => xts_nil) (fun _ _ _ _ _ => (xe_sub (w_call C__law_random hr rm.blk (xa_cons (w_var 0) (xa_cons (xe_add (xe_mul xe_int (w_var 2)) xe_int) xa_nil))) (w_var 2)))) xa_nil))))
theorem sc__law_content : FnScope ["poly", "found", "coefficient"] ["poly"] (defScope s__law_content) := ⟨rfl, rfl, rfl, by decide +kernel, rfl, by decide +kernel, by decide +kernel⟩
theorem ok__law_content (fr : Fre P K mg) (F : Fu K mg "_law_content" s__law_content) (C__law_divisor : Cal P w K mg base 1 "_law_divisor" s__law_divisor ["one", "other"] m__law_divisor)  : Cal P w K mg base 2 "_law_content" s__law_content ["poly"] m__law_content :=
  cal_of (k := 1) (N := ["poly", "found", "coefficient"]) (b := b__law_content) F sc__law_content (fun _ _ _ _ _ _ us hl => match us, hl with | [_], _ => rfl) fun f cdv A outer s H hr rm =>
  (xs_cons (w_set 1 sc__law_content.nd xe_int)
  (xs_cons (w_for [2] (xi_seq (w_var 0)) (w_gn 2 sc__law_content.nd) (xs_one (w_set 1 sc__law_content.nd (w_call C__law_divisor hr rm (xa_cons (w_var 1) (xa_cons (w_var 2) xa_nil))))))
  (xs_one (xs_ret (w_var 1)))))
theorem sc__law_binomial : FnScope ["n", "k", "found", "at", "below"] ["n", "k"] (defScope s__law_binomial) := ⟨rfl, rfl, rfl, by decide +kernel, rfl, by decide +kernel, by decide +kernel⟩
theorem ok__law_binomial (fr : Fre P K mg) (F : Fu K mg "_law_binomial" s__law_binomial)   : Cal P w K mg base 1 "_law_binomial" s__law_binomial ["n", "k"] m__law_binomial :=
  cal_of (k := 0) (N := ["n", "k", "found", "at", "below"]) (b := b__law_binomial) F sc__law_binomial (fun _ _ _ _ _ _ us hl => match us, hl with | [_, _], _ => rfl) fun f cdv A outer s H hr rm =>
  (xs_cons (w_set 2 sc__law_binomial.nd xe_int)
  (xs_cons (w_for [3] (xi_range1 rfl fr.f_range (xa_cons (w_var 1) xa_nil)) (w_gn 3 sc__law_binomial.nd) (xs_one (w_set 2 sc__law_binomial.nd (xe_mul (w_var 2) (xe_sub (w_var 0) (w_var 3))))))
  (xs_cons (w_set 4 sc__law_binomial.nd xe_int)
  (xs_cons (w_for [3] (xi_range1 rfl fr.f_range (xa_cons (w_var 1) xa_nil)) (w_gn 3 sc__law_binomial.nd) (xs_one (w_set 4 sc__law_binomial.nd (xe_mul (w_var 4) (xe_add (w_var 3) xe_int)))))
  (xs_one (xs_ret (xe_div (w_var 2) (w_var 4))))))))
theorem sc__law_products_right : FnScope ["many", "told", "step", "number", "due", "at"] ["many"] (defScope s__law_products_right) := ⟨rfl, rfl, rfl, by decide +kernel, rfl, by decide +kernel, by decide +kernel⟩
theorem kw_rising_poly_0_many : KwC "rising_poly" s_rising_poly ["many"] 0 ["many"] [0] := fun kV doc pm an cdv ct us ws h1 h2 => match us, ws, h1, h2 with | [], [_], _, _ => rfl
theorem kw_falling_poly_0_many : KwC "falling_poly" s_falling_poly ["many"] 0 ["many"] [0] := fun kV doc pm an cdv ct us ws h1 h2 => match us, ws, h1, h2 with | [], [_], _, _ => rfl
theorem ok__law_products_right (fr : Fre P K mg) (F : Fu K mg "_law_products_right" s__law_products_right) (C_rising_poly : Cal P w K mg base 4 "rising_poly" s_rising_poly ["many"] m_rising_poly) (C_falling_poly : Cal P w K mg base 4 "falling_poly" s_falling_poly ["many"] m_falling_poly) (C__law_is_poly : Cal P w K mg base 2 "_law_is_poly" s__law_is_poly ["value"] m__law_is_poly) (C__law_worth : Cal P w K mg base 1 "_law_worth" s__law_worth ["poly", "number"] m__law_worth) (C__law_marked : Cal P w K mg base 6 "_law_marked" s__law_marked ["told"] m__law_marked)  : Cal P w K mg base 7 "_law_products_right" s__law_products_right ["many"] m__law_products_right :=
  cal_of (k := 6) (N := ["many", "told", "step", "number", "due", "at"]) (b := b__law_products_right) F sc__law_products_right (fun _ _ _ _ _ _ us hl => match us, hl with | [_], _ => rfl) fun f cdv A outer s H hr rm =>
  (xs_cons (w_forT 1 2 sc__law_products_right.nd (xat_cons (xe_tupT (xat_cons (w_call C_falling_poly hr rm (xa_cons (w_var 0) xa_nil)) (xat_cons (xe_sub xe_int xe_int) xat_nil))) (xat_cons (xe_tupT (xat_cons (w_callK0 C_falling_poly hr rm kw_falling_poly_0_many (xk_cons (w_var 0) xk_nil)) (xat_cons (xe_sub xe_int xe_int) xat_nil))) (xat_cons (xe_tupT (xat_cons (w_call C_rising_poly hr rm (xa_cons (w_var 0) xa_nil)) (xat_cons xe_int xat_nil))) (xat_cons (xe_tupT (xat_cons (w_callK0 C_rising_poly hr rm kw_rising_poly_0_many (xk_cons (w_var 0) xk_nil)) (xat_cons xe_int xat_nil))) xat_nil)))) (xs_cons (xs_if (xt_bor (xt_w (xw_or (xt_not (xt_of (w_call C__law_is_poly hr rm (xa_cons (w_var 1) xa_nil)))) (xw_or1 (xt_ne rm (xe_len rfl fr.f_len (xa_cons (w_var 1) xa_nil)) (xe_add (w_var 0) xe_int)))))) (xs_one (xs_ret xe_bl)) xs_nil)
  (xs_cons (w_for [3] (xi_range2 rfl fr.f_range (xa_cons (xe_sub (xe_sub xe_int (w_var 0)) xe_int) (xa_cons (xe_add (w_var 0) xe_int) xa_nil))) (w_gn 3 sc__law_products_right.nd) (xs_cons (w_set 4 sc__law_products_right.nd xe_int)
  (xs_cons (w_for [5] (xi_range1 rfl fr.f_range (xa_cons (w_var 0) xa_nil)) (w_gn 5 sc__law_products_right.nd) (xs_one (w_set 4 sc__law_products_right.nd (xe_mul (w_var 4) (xe_add (w_var 3) (xe_mul (w_var 2) (w_var 5)))))))
  (xs_one (xs_if (xt_bor (xt_ne rm (w_call C__law_worth hr rm (xa_cons (w_var 1) (xa_cons (w_var 3) xa_nil))) (w_var 4))) (xs_one (xs_ret xe_bl)) xs_nil)))))
  (xs_one (xs_if (xt_not (xt_of (w_call C__law_marked hr rm (xa_cons (w_var 1) xa_nil)))) (xs_one (xs_ret xe_bl)) xs_nil)))))
  (xs_one (xs_ret xe_bl)))
theorem sc__law_right : FnScope ["generator", "poly", "numbers", "parts", "number", "again", "kept", "shown", "told", "below", "late", "under", "at", "part"] ["generator", "poly", "numbers"] (defScope s__law_right) := ⟨rfl, rfl, rfl, by decide +kernel, rfl, by decide +kernel, by decide +kernel⟩
theorem kw_binomial_parts_0_poly : KwC "binomial_parts" s_binomial_parts ["poly"] 0 ["poly"] [0] := fun kV doc pm an cdv ct us ws h1 h2 => match us, ws, h1, h2 with | [], [_], _, _ => rfl
theorem kw_of_binomial_parts_0_numbers : KwC "of_binomial_parts" s_of_binomial_parts ["numbers"] 0 ["numbers"] [0] := fun kV doc pm an cdv ct us ws h1 h2 => match us, ws, h1, h2 with | [], [_], _, _ => rfl
theorem kw_summed_poly_0_poly : KwC "summed_poly" s_summed_poly ["poly"] 0 ["poly"] [0] := fun kV doc pm an cdv ct us ws h1 h2 => match us, ws, h1, h2 with | [], [_], _, _ => rfl
theorem ok__law_right (fr : Fre P K mg) (F : Fu K mg "_law_right" s__law_right) (C_binomial_parts : Cal P w K mg base 4 "binomial_parts" s_binomial_parts ["poly"] m_binomial_parts) (C__law_same : Cal P w K mg base 6 "_law_same" s__law_same ["told", "due"] m__law_same) (C__law_is_poly : Cal P w K mg base 2 "_law_is_poly" s__law_is_poly ["value"] m__law_is_poly) (C__law_binomial : Cal P w K mg base 1 "_law_binomial" s__law_binomial ["n", "k"] m__law_binomial) (C__law_worth : Cal P w K mg base 1 "_law_worth" s__law_worth ["poly", "number"] m__law_worth) (C_of_binomial_parts : Cal P w K mg base 5 "of_binomial_parts" s_of_binomial_parts ["numbers"] m_of_binomial_parts) (C__law_divisor : Cal P w K mg base 1 "_law_divisor" s__law_divisor ["one", "other"] m__law_divisor) (C__law_content : Cal P w K mg base 2 "_law_content" s__law_content ["poly"] m__law_content) (C_summed_poly : Cal P w K mg base 5 "summed_poly" s_summed_poly ["poly"] m_summed_poly) (C__law_marked : Cal P w K mg base 6 "_law_marked" s__law_marked ["told"] m__law_marked) (CO__law_marked : CalO P w K mg base 7 "_law_marked" s__law_marked ["told"] (MkB mkt1__law_marked mkt2__law_marked 2 1 mke__law_marked [2] mks5__law_marked 3)) : Cal P w K mg base 8 "_law_right" s__law_right ["generator", "poly", "numbers"] m__law_right :=
  cal_of (k := 7) (N := ["generator", "poly", "numbers", "parts", "number", "again", "kept", "shown", "told", "below", "late", "under", "at", "part"]) (b := b__law_right) F sc__law_right (fun _ _ _ _ _ _ us hl => match us, hl with | [_, _, _], _ => rfl) fun f cdv A outer s H hr rm =>
  (xs_cons (xs_parO (i := 6) (j := 7) rfl sc__law_right.nd (xao_dat (xe_reprB rm fr.sysd fr.digd rfl fr.f_repr (xa_cons (w_var 1) xa_nil)) (xao_dat (xe_reprB rm fr.sysd fr.digd rfl fr.f_repr (xa_cons (w_var 2) xa_nil)) xao_nil)))
  (xs_cons (w_own 3 sc__law_right.nd (w_call C_binomial_parts hr rm (xa_cons (w_var 1) xa_nil)))
  (xs_cons (xs_if (xt_bor (xt_w (xw_or (xt_not (xt_of (w_call C__law_same hr rm (xa_cons (w_callK0 C_binomial_parts hr rm kw_binomial_parts_0_poly (xk_cons (w_var 1) xk_nil)) (xa_cons (w_var 3) xa_nil))))) (xw_or (xt_not (xt_of (w_call C__law_is_poly hr rm (xa_cons (w_var 3) xa_nil)))) (xw_or1 (xt_ne rm (xe_len rfl fr.f_len (xa_cons (w_var 3) xa_nil)) (xe_len rfl fr.f_len (xa_cons (w_var 1) xa_nil)))))))) (xs_one (xs_ret xe_bl)) xs_nil)
  (xs_cons (w_for [4] (xi_range1 rfl fr.f_range (xa_cons (xe_add (xe_len rfl fr.f_len (xa_cons (w_var 1) xa_nil)) xe_int) xa_nil)) (w_gn 4 sc__law_right.nd) (xs_one (xs_if (xt_bor (xt_ne rm (xe_sum rm rfl fr.f_sum (xa_cons (xe_comp (own := [("at", 12), ("part", 13)]) rfl sc__law_right.nd (xi_enum rfl fr.f_enumerate (xa_cons (w_var 3) xa_nil)) (blkOk_by rfl) (fun _ _ _ _ _ => (xg_tup rfl (xgs_cons (w_gn 12 sc__law_right.nd) (xgs_cons (w_gn 13 sc__law_right.nd) xgs_nil)))) (fun _ _ _ _ _ => xts_nil) (fun _ _ _ _ _ => (xe_mul (w_var 13) (w_call C__law_binomial hr rm.blk (xa_cons (w_var 4) (xa_cons (w_var 12) xa_nil)))))) xa_nil)) (w_call C__law_worth hr rm (xa_cons (w_var 1) (xa_cons (w_var 4) xa_nil))))) (xs_one (xs_ret xe_bl)) xs_nil)))
  (xs_cons (w_unp 8 9 sc__law_right.nd (w_call C_of_binomial_parts hr rm (xa_cons (w_var 2) xa_nil)))
  (xs_cons (xs_if (xt_bor (xt_w (xw_or (xt_not (xt_of (w_call C__law_same hr rm (xa_cons (xe_list1 rm rfl fr.f_list (xa_cons (w_callK0 C_of_binomial_parts hr rm kw_of_binomial_parts_0_numbers (xk_cons (w_var 2) xk_nil)) xa_nil)) (xa_cons (xe_lst (xa_cons (w_var 8) (xa_cons (w_var 9) xa_nil))) xa_nil))))) (xw_or (xt_not (xt_of (w_call C__law_is_poly hr rm (xa_cons (w_var 8) xa_nil)))) (xw_or (xt_lt rm (w_var 9) xe_int) (xw_or1 (xt_notin rm (w_call C__law_divisor hr rm (xa_cons (w_var 9) (xa_cons (w_call C__law_content hr rm (xa_cons (w_var 8) xa_nil)) xa_nil))) (xe_lst (xa_cons xe_int (xa_cons xe_int xa_nil)))))))))) (xs_one (xs_ret xe_bl)) xs_nil)
  (xs_cons (w_for [4] (xi_range1 rfl fr.f_range (xa_cons (xe_add (xe_len rfl fr.f_len (xa_cons (w_var 2) xa_nil)) xe_int) xa_nil)) (w_gn 4 sc__law_right.nd) (xs_one (xs_if (xt_bor (xt_ne rm (w_call C__law_worth hr rm (xa_cons (w_var 8) (xa_cons (w_var 4) xa_nil))) (xe_mul (w_var 9) (xe_sum rm rfl fr.f_sum (xa_cons (xe_comp (own := [("at", 12), ("part", 13)]) rfl sc__law_right.nd (xi_enum rfl fr.f_enumerate (xa_cons (w_var 2) xa_nil)) (blkOk_by rfl) (fun _ _ _ _ _ => (xg_tup rfl (xgs_cons (w_gn 12 sc__law_right.nd) (xgs_cons (w_gn 13 sc__law_right.nd) xgs_nil)))) (fun _ _ _ _ _ => xts_nil) (fun _ _ _ _ _ => (xe_mul (w_var 13) (w_call C__law_binomial hr rm.blk (xa_cons (w_var 4) (xa_cons (w_var 12) xa_nil)))))) xa_nil))))) (xs_one (xs_ret xe_bl)) xs_nil)))
  (xs_cons (xs_if (xt_bor (xt_not (xt_of (w_call C__law_same hr rm (xa_cons (xe_list1 rm rfl fr.f_list (xa_cons (w_call C_of_binomial_parts hr rm (xa_cons (w_var 3) xa_nil)) xa_nil)) (xa_cons (xe_lst (xa_cons (w_var 1) (xa_cons xe_int xa_nil))) xa_nil)))))) (xs_one (xs_ret xe_bl)) xs_nil)
  (xs_cons (w_unp 10 11 sc__law_right.nd (w_call C_summed_poly hr rm (xa_cons (w_var 1) xa_nil)))
  (xs_cons (xs_if (xt_bor (xt_w (xw_or (xt_not (xt_of (w_call C__law_same hr rm (xa_cons (xe_list1 rm rfl fr.f_list (xa_cons (w_callK0 C_summed_poly hr rm kw_summed_poly_0_poly (xk_cons (w_var 1) xk_nil)) xa_nil)) (xa_cons (xe_lst (xa_cons (w_var 10) (xa_cons (w_var 11) xa_nil))) xa_nil))))) (xw_or (xt_not (xt_of (w_call C__law_is_poly hr rm (xa_cons (w_var 10) xa_nil)))) (xw_or (xt_lt rm (w_var 11) xe_int) (xw_or1 (xt_notin rm (w_call C__law_divisor hr rm (xa_cons (w_var 11) (xa_cons (w_call C__law_content hr rm (xa_cons (w_var 10) xa_nil)) xa_nil))) (xe_lst (xa_cons xe_int (xa_cons xe_int xa_nil)))))))))) (xs_one (xs_ret xe_bl)) xs_nil)
  (xs_cons (w_for [4] (xi_range1 rfl fr.f_range (xa_cons (xe_add (xe_len rfl fr.f_len (xa_cons (w_var 1) xa_nil)) xe_int) xa_nil)) (w_gn 4 sc__law_right.nd) (xs_one (xs_if (xt_bor (xt_ne rm (w_call C__law_worth hr rm (xa_cons (w_var 10) (xa_cons (w_var 4) xa_nil))) (xe_mul (w_var 11) (xe_sum rm rfl fr.f_sum (xa_cons (xe_comp (own := [("at", 12)]) rfl sc__law_right.nd (xi_range1 rfl fr.f_range (xa_cons (w_var 4) xa_nil)) (blkOk_by rfl) (fun _ _ _ _ _ => (w_gn 12 sc__law_right.nd)) (fun _ _ _ _ _ => xts_nil) (fun _ _ _ _ _ => (w_call C__law_worth hr rm.blk (xa_cons (w_var 1) (xa_cons (w_var 12) xa_nil))))) xa_nil))))) (xs_one (xs_ret xe_bl)) xs_nil)))
  (xs_cons (w_set 5 sc__law_right.nd (xe_bor (xe_bor (xe_bor (xe_reprB rm fr.sysd fr.digd rfl fr.f_repr (xa_cons (xe_lst (xa_cons (w_var 3) (xa_cons (xe_tup (xa_cons (w_var 8) (xa_cons (w_var 9) xa_nil))) (xa_cons (xe_tup (xa_cons (w_var 10) (xa_cons (w_var 11) xa_nil))) xa_nil)))) xa_nil))))))
  (xs_cons (xs_if (xt_w (xw_or (xt_not (xt_of (xe_mark CO__law_marked hmo__law_marked hr rm (xa_cons (w_var 3) (xa_cons (w_var 8) (xa_cons (w_var 10) xa_nil)))))) (xw_or1 (xt_ne rm (xe_reprB rm fr.sysd fr.digd rfl fr.f_repr (xa_cons (xe_lst (xa_cons (w_call C_binomial_parts hr rm (xa_cons (w_var 1) xa_nil)) (xa_cons (w_call C_of_binomial_parts hr rm (xa_cons (w_var 2) xa_nil)) (xa_cons (w_call C_summed_poly hr rm (xa_cons (w_var 1) xa_nil)) xa_nil)))) xa_nil)) (w_var 5))))) (xs_one (xs_ret xe_bl)) xs_nil)
  (xs_one (xs_ret (xe_and (xe_eq rm (xe_reprB rm fr.sysd fr.digd rfl fr.f_repr (xa_cons (w_var 1) xa_nil)) (w_var 6)) (xe_and1 (xe_eq rm (xe_reprB rm fr.sysd fr.digd rfl fr.f_repr (xa_cons (w_var 2) xa_nil)) (w_var 7)))))))))))))))))))
theorem sc_law : FnScope ["script", "index", "told", "generator", "long", "poly", "numbers", "at"] ["script"] (defScope s_law) := ⟨rfl, rfl, rfl, by decide +kernel, rfl, by decide +kernel, by decide +kernel⟩
theorem ok_law (fr : Fre P K mg) (F : Fu K mg "law" s_law) (C__law_generator : Cal P w K mg base 2 "_law_generator" s__law_generator ["script", "index"] m__law_generator) (C__law_products_right : Cal P w K mg base 7 "_law_products_right" s__law_products_right ["many"] m__law_products_right) (C__law_random : Cal P w K mg base 2 "_law_random" s__law_random ["generator", "bound"] m__law_random) (C__law_right : Cal P w K mg base 8 "_law_right" s__law_right ["generator", "poly", "numbers"] m__law_right) (C__law_drawn : Cal P w K mg base 3 "_law_drawn" s__law_drawn ["generator", "degree", "far"] m__law_drawn) (C_of_binomial_parts : Cal P w K mg base 5 "of_binomial_parts" s_of_binomial_parts ["numbers"] m_of_binomial_parts) (C_summed_poly : Cal P w K mg base 5 "summed_poly" s_summed_poly ["poly"] m_summed_poly) (C_binomial_parts : Cal P w K mg base 4 "binomial_parts" s_binomial_parts ["poly"] m_binomial_parts) (C_falling_poly : Cal P w K mg base 4 "falling_poly" s_falling_poly ["many"] m_falling_poly) (C_rising_poly : Cal P w K mg base 4 "rising_poly" s_rising_poly ["many"] m_rising_poly) (C__law_same : Cal P w K mg base 6 "_law_same" s__law_same ["told", "due"] m__law_same)  : Cal P w K mg base 9 "law" s_law ["script"] m_law :=
  cal_of (k := 8) (N := ["script", "index", "told", "generator", "long", "poly", "numbers", "at"]) (b := b_law) F sc_law (fun _ _ _ _ _ _ us hl => match us, hl with | [_], _ => rfl) fun f cdv A outer s H hr rm =>
  (xs_cons (w_for [1] (xi_range1 rfl fr.f_range (xa_cons xe_int xa_nil)) (w_gn 1 sc_law.nd) (xs_cons (w_own 3 sc_law.nd (w_call C__law_generator hr rm (xa_cons (w_var 0) (xa_cons (w_var 1) xa_nil))))
  (xs_cons (xs_if (xt_w (xw_or (xt_not (xt_of (w_call C__law_products_right hr rm (xa_cons (w_call C__law_random hr rm (xa_cons (w_var 3) (xa_cons xe_int xa_nil))) xa_nil)))) (xw_or1 (xt_not (xt_of (w_call C__law_products_right hr rm (xa_cons (xe_add xe_int (w_call C__law_random hr rm (xa_cons (w_var 3) (xa_cons xe_int xa_nil)))) xa_nil))))))) (xs_one (xs_ret xe_bl)) xs_nil)
  (xs_cons (w_set 4 sc_law.nd (xe_add (xe_comp (own := [("at", 7)]) rfl sc_law.nd (xi_range1 rfl fr.f_range (xa_cons (xe_add xe_int (w_call C__law_random hr rm (xa_cons (w_var 3) (xa_cons xe_int xa_nil)))) xa_nil)) (blkOk_by rfl) (fun _ _ _ _ _ => (w_gn 7 sc_law.nd)) (fun _ _ _ _ _ => xts_nil) (fun _ _ _ _ _ => (xe_sub (w_call C__law_random hr rm.blk (xa_cons (w_var 3) (xa_cons xe_int xa_nil))) xe_int))) (xe_lst (xa_cons (xe_add xe_int (w_call C__law_random hr rm (xa_cons (w_var 3) (xa_cons xe_int xa_nil)))) xa_nil))))
  (xs_cons (xs_if (xt_not (xt_of (w_call C__law_right hr rm (xa_cons (w_var 3) (xa_cons (w_var 4) (xa_cons (xe_comp (own := [("at", 7)]) rfl sc_law.nd (xi_range1 rfl fr.f_range (xa_cons (xe_add xe_int (w_call C__law_random hr rm (xa_cons (w_var 3) (xa_cons xe_int xa_nil)))) xa_nil)) (blkOk_by rfl) (fun _ _ _ _ _ => (w_gn 7 sc_law.nd)) (fun _ _ _ _ _ => xts_nil) (fun _ _ _ _ _ => (xe_sub (w_call C__law_random hr rm.blk (xa_cons (w_var 3) (xa_cons xe_int xa_nil))) xe_int))) xa_nil)))))) (xs_one (xs_ret xe_bl)) xs_nil)
  (xs_one (w_for [5] (xi_seq (xe_lst (xa_cons (w_call C__law_drawn hr rm (xa_cons (w_var 3) (xa_cons xe_int (xa_cons xe_int xa_nil)))) (xa_cons (w_call C__law_drawn hr rm (xa_cons (w_var 3) (xa_cons xe_int (xa_cons (xe_pow xe_int xe_int) xa_nil)))) (xa_cons (xe_lst xa_nil) xa_nil))))) (w_gn 5 sc_law.nd) (xs_cons (w_set 6 sc_law.nd (xe_add (xe_comp (own := [("at", 7)]) rfl sc_law.nd (xi_range1 rfl fr.f_range (xa_cons (w_call C__law_random hr rm (xa_cons (w_var 3) (xa_cons xe_int xa_nil))) xa_nil)) (blkOk_by rfl) (fun _ _ _ _ _ => (w_gn 7 sc_law.nd)) (fun _ _ _ _ _ => xts_nil) (fun _ _ _ _ _ => (xe_sub (w_call C__law_random hr rm.blk (xa_cons (w_var 3) (xa_cons xe_int xa_nil))) xe_int))) (xe_mul (xe_lst (xa_cons xe_int xa_nil)) (w_call C__law_random hr rm (xa_cons (w_var 3) (xa_cons xe_int xa_nil))))))
  (xs_one (xs_if (xt_not (xt_of (w_call C__law_right hr rm (xa_cons (w_var 3) (xa_cons (w_var 5) (xa_cons (w_var 6) xa_nil)))))) (xs_one (xs_ret xe_bl)) xs_nil))))))))))
  (xs_cons (w_set 2 sc_law.nd (xe_lst (xa_cons (w_call C_falling_poly hr rm (xa_cons xe_int xa_nil)) (xa_cons (w_call C_rising_poly hr rm (xa_cons xe_int xa_nil)) (xa_cons (w_call C_falling_poly hr rm (xa_cons xe_int xa_nil)) (xa_cons (w_call C_binomial_parts hr rm (xa_cons (xe_lst (xa_cons xe_int (xa_cons xe_int (xa_cons xe_int xa_nil)))) xa_nil)) (xa_cons (w_call C_of_binomial_parts hr rm (xa_cons (xe_lst (xa_cons xe_int (xa_cons xe_int (xa_cons xe_int xa_nil)))) xa_nil)) (xa_cons (w_call C_summed_poly hr rm (xa_cons (xe_lst (xa_cons xe_int (xa_cons xe_int xa_nil))) xa_nil)) (xa_cons (w_call C_of_binomial_parts hr rm (xa_cons (xe_lst xa_nil) xa_nil)) xa_nil)))))))))
  (xs_one (xs_ret (w_call C__law_same hr rm (xa_cons (w_var 2) (xa_cons (xe_lst (xa_cons (xe_lst (xa_cons xe_int (xa_cons xe_int (xa_cons (xe_sub xe_int xe_int) (xa_cons xe_int xa_nil))))) (xa_cons (xe_lst (xa_cons xe_int (xa_cons xe_int (xa_cons xe_int xa_nil)))) (xa_cons (xe_lst (xa_cons xe_int xa_nil)) (xa_cons (xe_lst (xa_cons xe_int (xa_cons xe_int (xa_cons xe_int xa_nil)))) (xa_cons (xe_tup (xa_cons (xe_lst (xa_cons xe_int (xa_cons xe_int (xa_cons xe_int xa_nil)))) (xa_cons xe_int xa_nil))) (xa_cons (xe_tup (xa_cons (xe_lst (xa_cons xe_int (xa_cons (xe_sub xe_int xe_int) (xa_cons xe_int xa_nil)))) (xa_cons xe_int xa_nil))) (xa_cons (xe_tup (xa_cons (xe_lst xa_nil) (xa_cons xe_int xa_nil))) xa_nil)))))))) xa_nil)))))))
theorem all_ok (fr : Fre P K mg) (F_is_whole : Fu K mg "is_whole" s_is_whole) (F_is_count : Fu K mg "is_count" s_is_count) (F_common_of : Fu K mg "common_of" s_common_of) (F_is_poly : Fu K mg "is_poly" s_is_poly) (F_check_poly : Fu K mg "check_poly" s_check_poly) (F_cut_poly : Fu K mg "cut_poly" s_cut_poly) (F_worth_in : Fu K mg "worth_in" s_worth_in) (F_sum_in : Fu K mg "sum_in" s_sum_in) (F_scaled_in : Fu K mg "scaled_in" s_scaled_in) (F_product_in : Fu K mg "product_in" s_product_in) (F_content_in : Fu K mg "content_in" s_content_in) (F_lesser_parts : Fu K mg "lesser_parts" s_lesser_parts) (F_check_many : Fu K mg "check_many" s_check_many) (F_product_by : Fu K mg "product_by" s_product_by) (F_falling_poly : Fu K mg "falling_poly" s_falling_poly) (F_rising_poly : Fu K mg "rising_poly" s_rising_poly) (F_differences_at_0 : Fu K mg "differences_at_0" s_differences_at_0) (F_binomial_parts : Fu K mg "binomial_parts" s_binomial_parts) (F_made_of_binomials : Fu K mg "made_of_binomials" s_made_of_binomials) (F_of_binomial_parts : Fu K mg "of_binomial_parts" s_of_binomial_parts) (F_summed_poly : Fu K mg "summed_poly" s_summed_poly) (F__law_hash : Fu K mg "_law_hash" s__law_hash) (F__law_random : Fu K mg "_law_random" s__law_random) (F__law_cell : Fu K mg "_law_cell" s__law_cell) (F__law_generator : Fu K mg "_law_generator" s__law_generator) (F__law_same : Fu K mg "_law_same" s__law_same) (F__law_marked : Fu K mg "_law_marked" s__law_marked) (F__law_is_whole : Fu K mg "_law_is_whole" s__law_is_whole) (F__law_divisor : Fu K mg "_law_divisor" s__law_divisor) (F__law_cut : Fu K mg "_law_cut" s__law_cut) (F__law_is_poly : Fu K mg "_law_is_poly" s__law_is_poly) (F__law_worth : Fu K mg "_law_worth" s__law_worth) (F__law_drawn : Fu K mg "_law_drawn" s__law_drawn) (F__law_content : Fu K mg "_law_content" s__law_content) (F__law_binomial : Fu K mg "_law_binomial" s__law_binomial) (F__law_products_right : Fu K mg "_law_products_right" s__law_products_right) (F__law_right : Fu K mg "_law_right" s__law_right) (F_law : Fu K mg "law" s_law) : Cal P w K mg base 9 "law" s_law ["script"] m_law := by
  have C_is_whole := ok_is_whole (P := P) (w := w) (base := base) fr F_is_whole
  have C_is_count := ok_is_count (P := P) (w := w) (base := base) fr F_is_count C_is_whole
  have C_common_of := ok_common_of (P := P) (w := w) (base := base) fr F_common_of
  have C_is_poly := ok_is_poly (P := P) (w := w) (base := base) fr F_is_poly C_is_whole
  have C_check_poly := ok_check_poly (P := P) (w := w) (base := base) fr F_check_poly C_is_poly
  have C_cut_poly := ok_cut_poly (P := P) (w := w) (base := base) fr F_cut_poly
  have C_worth_in := ok_worth_in (P := P) (w := w) (base := base) fr F_worth_in
  have C_sum_in := ok_sum_in (P := P) (w := w) (base := base) fr F_sum_in C_cut_poly
  have C_scaled_in := ok_scaled_in (P := P) (w := w) (base := base) fr F_scaled_in
  have C_product_in := ok_product_in (P := P) (w := w) (base := base) fr F_product_in
  have C_content_in := ok_content_in (P := P) (w := w) (base := base) fr F_content_in C_common_of
  have C_lesser_parts := ok_lesser_parts (P := P) (w := w) (base := base) fr F_lesser_parts C_common_of C_content_in
  have C_check_many := ok_check_many (P := P) (w := w) (base := base) fr F_check_many C_is_count
  have C_product_by := ok_product_by (P := P) (w := w) (base := base) fr F_product_by C_product_in
  have C_falling_poly := ok_falling_poly (P := P) (w := w) (base := base) fr F_falling_poly C_check_many C_product_by
  have C_rising_poly := ok_rising_poly (P := P) (w := w) (base := base) fr F_rising_poly C_check_many C_product_by
  have C_differences_at_0 := ok_differences_at_0 (P := P) (w := w) (base := base) fr F_differences_at_0
  have C_binomial_parts := ok_binomial_parts (P := P) (w := w) (base := base) fr F_binomial_parts C_check_poly C_cut_poly C_differences_at_0 C_worth_in
  have C_made_of_binomials := ok_made_of_binomials (P := P) (w := w) (base := base) fr F_made_of_binomials C_sum_in C_scaled_in C_product_in C_lesser_parts
  have C_of_binomial_parts := ok_of_binomial_parts (P := P) (w := w) (base := base) fr F_of_binomial_parts C_is_whole C_made_of_binomials
  have C_summed_poly := ok_summed_poly (P := P) (w := w) (base := base) fr F_summed_poly C_made_of_binomials C_binomial_parts
  have C__law_hash := ok__law_hash (P := P) (w := w) (base := base) fr F__law_hash
  have C__law_random := ok__law_random (P := P) (w := w) (base := base) fr F__law_random C__law_hash
  have C__law_cell := ok__law_cell (P := P) (w := w) (base := base) fr F__law_cell
  have C__law_generator := ok__law_generator (P := P) (w := w) (base := base) fr F__law_generator C__law_cell
  have C__law_same := ok__law_same (P := P) (w := w) (base := base) fr F__law_same
  have C__law_marked := ok__law_marked (P := P) (w := w) (base := base) fr F__law_marked
  have CO__law_marked := okO__law_marked (P := P) (w := w) (base := base) fr F__law_marked C__law_marked
  have C__law_is_whole := ok__law_is_whole (P := P) (w := w) (base := base) fr F__law_is_whole
  have C__law_divisor := ok__law_divisor (P := P) (w := w) (base := base) fr F__law_divisor
  have C__law_cut := ok__law_cut (P := P) (w := w) (base := base) fr F__law_cut
  have C__law_is_poly := ok__law_is_poly (P := P) (w := w) (base := base) fr F__law_is_poly C__law_is_whole
  have C__law_worth := ok__law_worth (P := P) (w := w) (base := base) fr F__law_worth
  have C__law_drawn := ok__law_drawn (P := P) (w := w) (base := base) fr F__law_drawn C__law_cut C__law_random
  have C__law_content := ok__law_content (P := P) (w := w) (base := base) fr F__law_content C__law_divisor
  have C__law_binomial := ok__law_binomial (P := P) (w := w) (base := base) fr F__law_binomial
  have C__law_products_right := ok__law_products_right (P := P) (w := w) (base := base) fr F__law_products_right C_rising_poly C_falling_poly C__law_is_poly C__law_worth C__law_marked
  have C__law_right := ok__law_right (P := P) (w := w) (base := base) fr F__law_right C_binomial_parts C__law_same C__law_is_poly C__law_binomial C__law_worth C_of_binomial_parts C__law_divisor C__law_content C_summed_poly C__law_marked CO__law_marked
  exact ok_law fr F_law C__law_generator C__law_products_right C__law_random C__law_right C__law_drawn C_of_binomial_parts C_summed_poly C_binomial_parts C_falling_poly C_rising_poly C__law_same
end
def d_is_whole : He.DefD := ⟨("is_whole", none), "is_whole", "is_whole", defArgs s_is_whole, defBody s_is_whole, defScope s_is_whole, [], []⟩
def d_is_count : He.DefD := ⟨("is_count", none), "is_count", "is_count", defArgs s_is_count, defBody s_is_count, defScope s_is_count, [], []⟩
def d_common_of : He.DefD := ⟨("common_of", none), "common_of", "common_of", defArgs s_common_of, defBody s_common_of, defScope s_common_of, [], []⟩
def d_is_poly : He.DefD := ⟨("is_poly", none), "is_poly", "is_poly", defArgs s_is_poly, defBody s_is_poly, defScope s_is_poly, [], []⟩
def d_check_poly : He.DefD := ⟨("check_poly", none), "check_poly", "check_poly", defArgs s_check_poly, defBody s_check_poly, defScope s_check_poly, [], []⟩
def d_cut_poly : He.DefD := ⟨("cut_poly", none), "cut_poly", "cut_poly", defArgs s_cut_poly, defBody s_cut_poly, defScope s_cut_poly, [], []⟩
def d_worth_in : He.DefD := ⟨("worth_in", none), "worth_in", "worth_in", defArgs s_worth_in, defBody s_worth_in, defScope s_worth_in, [], []⟩
def d_sum_in : He.DefD := ⟨("sum_in", none), "sum_in", "sum_in", defArgs s_sum_in, defBody s_sum_in, defScope s_sum_in, [], []⟩
def d_scaled_in : He.DefD := ⟨("scaled_in", none), "scaled_in", "scaled_in", defArgs s_scaled_in, defBody s_scaled_in, defScope s_scaled_in, [], []⟩
def d_product_in : He.DefD := ⟨("product_in", none), "product_in", "product_in", defArgs s_product_in, defBody s_product_in, defScope s_product_in, [], []⟩
def d_content_in : He.DefD := ⟨("content_in", none), "content_in", "content_in", defArgs s_content_in, defBody s_content_in, defScope s_content_in, [], []⟩
def d_lesser_parts : He.DefD := ⟨("lesser_parts", none), "lesser_parts", "lesser_parts", defArgs s_lesser_parts, defBody s_lesser_parts, defScope s_lesser_parts, [], []⟩
def d_check_many : He.DefD := ⟨("check_many", none), "check_many", "check_many", defArgs s_check_many, defBody s_check_many, defScope s_check_many, [], []⟩
def d_product_by : He.DefD := ⟨("product_by", none), "product_by", "product_by", defArgs s_product_by, defBody s_product_by, defScope s_product_by, [], []⟩
def d_falling_poly : He.DefD := ⟨("falling_poly", none), "falling_poly", "falling_poly", defArgs s_falling_poly, defBody s_falling_poly, defScope s_falling_poly, [], []⟩
def d_rising_poly : He.DefD := ⟨("rising_poly", none), "rising_poly", "rising_poly", defArgs s_rising_poly, defBody s_rising_poly, defScope s_rising_poly, [], []⟩
def d_differences_at_0 : He.DefD := ⟨("differences_at_0", none), "differences_at_0", "differences_at_0", defArgs s_differences_at_0, defBody s_differences_at_0, defScope s_differences_at_0, [], []⟩
def d_binomial_parts : He.DefD := ⟨("binomial_parts", none), "binomial_parts", "binomial_parts", defArgs s_binomial_parts, defBody s_binomial_parts, defScope s_binomial_parts, [], []⟩
def d_made_of_binomials : He.DefD := ⟨("made_of_binomials", none), "made_of_binomials", "made_of_binomials", defArgs s_made_of_binomials, defBody s_made_of_binomials, defScope s_made_of_binomials, [], []⟩
def d_of_binomial_parts : He.DefD := ⟨("of_binomial_parts", none), "of_binomial_parts", "of_binomial_parts", defArgs s_of_binomial_parts, defBody s_of_binomial_parts, defScope s_of_binomial_parts, [], []⟩
def d_summed_poly : He.DefD := ⟨("summed_poly", none), "summed_poly", "summed_poly", defArgs s_summed_poly, defBody s_summed_poly, defScope s_summed_poly, [], []⟩
def d__law_hash : He.DefD := ⟨("_law_hash", none), "_law_hash", "_law_hash", defArgs s__law_hash, defBody s__law_hash, defScope s__law_hash, [], []⟩
def d__law_random : He.DefD := ⟨("_law_random", none), "_law_random", "_law_random", defArgs s__law_random, defBody s__law_random, defScope s__law_random, [], []⟩
def d__law_cell : He.DefD := ⟨("_law_cell", none), "_law_cell", "_law_cell", defArgs s__law_cell, defBody s__law_cell, defScope s__law_cell, [], []⟩
def d__law_generator : He.DefD := ⟨("_law_generator", none), "_law_generator", "_law_generator", defArgs s__law_generator, defBody s__law_generator, defScope s__law_generator, [], []⟩
def d__law_same : He.DefD := ⟨("_law_same", none), "_law_same", "_law_same", defArgs s__law_same, defBody s__law_same, defScope s__law_same, [], []⟩
def d__law_marked : He.DefD := ⟨("_law_marked", none), "_law_marked", "_law_marked", defArgs s__law_marked, defBody s__law_marked, defScope s__law_marked, [], []⟩
def d__law_is_whole : He.DefD := ⟨("_law_is_whole", none), "_law_is_whole", "_law_is_whole", defArgs s__law_is_whole, defBody s__law_is_whole, defScope s__law_is_whole, [], []⟩
def d__law_divisor : He.DefD := ⟨("_law_divisor", none), "_law_divisor", "_law_divisor", defArgs s__law_divisor, defBody s__law_divisor, defScope s__law_divisor, [], []⟩
def d__law_cut : He.DefD := ⟨("_law_cut", none), "_law_cut", "_law_cut", defArgs s__law_cut, defBody s__law_cut, defScope s__law_cut, [], []⟩
def d__law_is_poly : He.DefD := ⟨("_law_is_poly", none), "_law_is_poly", "_law_is_poly", defArgs s__law_is_poly, defBody s__law_is_poly, defScope s__law_is_poly, [], []⟩
def d__law_worth : He.DefD := ⟨("_law_worth", none), "_law_worth", "_law_worth", defArgs s__law_worth, defBody s__law_worth, defScope s__law_worth, [], []⟩
def d__law_drawn : He.DefD := ⟨("_law_drawn", none), "_law_drawn", "_law_drawn", defArgs s__law_drawn, defBody s__law_drawn, defScope s__law_drawn, [], []⟩
def d__law_content : He.DefD := ⟨("_law_content", none), "_law_content", "_law_content", defArgs s__law_content, defBody s__law_content, defScope s__law_content, [], []⟩
def d__law_binomial : He.DefD := ⟨("_law_binomial", none), "_law_binomial", "_law_binomial", defArgs s__law_binomial, defBody s__law_binomial, defScope s__law_binomial, [], []⟩
def d__law_products_right : He.DefD := ⟨("_law_products_right", none), "_law_products_right", "_law_products_right", defArgs s__law_products_right, defBody s__law_products_right, defScope s__law_products_right, [], []⟩
def d__law_right : He.DefD := ⟨("_law_right", none), "_law_right", "_law_right", defArgs s__law_right, defBody s__law_right, defScope s__law_right, [], []⟩
def d_law : He.DefD := ⟨("law", none), "law", "law", defArgs s_law, defBody s_law, defScope s_law, [], []⟩
def fn : List He.DefD := [d_is_whole, d_is_count, d_common_of, d_is_poly, d_check_poly, d_cut_poly, d_worth_in, d_sum_in, d_scaled_in, d_product_in, d_content_in, d_lesser_parts, d_check_many, d_product_by, d_falling_poly, d_rising_poly, d_differences_at_0, d_binomial_parts, d_made_of_binomials, d_of_binomial_parts, d_summed_poly, d__law_hash, d__law_random, d__law_cell, d__law_generator, d__law_same, d__law_marked, d__law_is_whole, d__law_divisor, d__law_cut, d__law_is_poly, d__law_worth, d__law_drawn, d__law_content, d__law_binomial, d__law_products_right, d__law_right, d_law]
def fa : List He.Fa := [.glo "is_whole", .glo "is_count", .glo "common_of", .glo "is_poly", .glo "check_poly", .glo "cut_poly", .glo "worth_in", .glo "sum_in", .glo "scaled_in", .glo "product_in", .glo "content_in", .glo "lesser_parts", .glo "check_many", .glo "product_by", .glo "falling_poly", .glo "rising_poly", .glo "differences_at_0", .glo "binomial_parts", .glo "made_of_binomials", .glo "of_binomial_parts", .glo "summed_poly", .glo "_law_hash", .glo "_law_random", .glo "_law_cell", .glo "_law_generator", .glo "_law_same", .glo "_law_marked", .glo "_law_is_whole", .glo "_law_divisor", .glo "_law_cut", .glo "_law_is_poly", .glo "_law_worth", .glo "_law_drawn", .glo "_law_content", .glo "_law_binomial", .glo "_law_products_right", .glo "_law_right", .glo "law", .free "abs", .free "all", .free "bool", .free "enumerate", .free "int", .free "isinstance", .free "len", .free "list", .free "max", .free "range", .free "repr", .free "str", .free "sum", .free "tuple", .free "zip"]
def ini : List HX.IniD := []
def xs : List (PySem.W.Frag → Bool) := [HX.sysB, digB]
abbrev R : PySem.W.OpenRow := PySem.W.OpenLaw.row PySem.Challenge.rw_eversame_k18_whole_falling_products
abbrev hk : PySem.W.Hook := HX.hookX 4 fa fn xs ini
def ob (s : PySem.W.SharedT) : HX.AlX := HX.obsXG 4 fa fn xs ini (HandSHeadRun.getT s)
theorem ob_eq (s : PySem.W.SharedT) : ob s = hk.obs s.abs := HX.obsXG_eq (HandSHeadRun.getT_eq s)
def loose : List PySem.Str := [("__name__" : PySem.Str), ("SameError" : PySem.Str), ("InvalidNumber" : PySem.Str), ("InvalidList" : PySem.Str), ("InvalidPoly" : PySem.Str), ("is_whole" : PySem.Str), ("is_count" : PySem.Str), ("common_of" : PySem.Str), ("is_poly" : PySem.Str), ("check_poly" : PySem.Str), ("cut_poly" : PySem.Str), ("worth_in" : PySem.Str), ("sum_in" : PySem.Str), ("scaled_in" : PySem.Str), ("product_in" : PySem.Str), ("content_in" : PySem.Str), ("lesser_parts" : PySem.Str), ("check_many" : PySem.Str), ("product_by" : PySem.Str), ("falling_poly" : PySem.Str), ("rising_poly" : PySem.Str), ("differences_at_0" : PySem.Str), ("binomial_parts" : PySem.Str), ("made_of_binomials" : PySem.Str), ("of_binomial_parts" : PySem.Str), ("summed_poly" : PySem.Str), ("_law_hash" : PySem.Str), ("_law_random" : PySem.Str), ("_law_cell" : PySem.Str), ("_law_generator" : PySem.Str), ("_law_same" : PySem.Str), ("_law_marked" : PySem.Str), ("_law_is_whole" : PySem.Str), ("_law_divisor" : PySem.Str), ("_law_cut" : PySem.Str), ("_law_is_poly" : PySem.Str), ("_law_worth" : PySem.Str), ("_law_drawn" : PySem.Str), ("_law_content" : PySem.Str), ("_law_binomial" : PySem.Str), ("_law_products_right" : PySem.Str), ("_law_right" : PySem.Str)]
theorem run (w : World) : HandSHeadRun.RunEq R (PySem.W.view R.prog [48]) hk ob 8000 loose w := by
  intro os
  kernel_rfl
theorem facts {w : World} {K : PySem.W.Frag} {h : Heap} {mg : Str → Option Value} (X : K.In h) (G : h.Ns mainGlobals mg) (c : HX.SaysX fa fn xs ini K) : ∀ base : Heap, Cal (PySem.Challenge.rw_eversame_k18_whole_falling_products).prog w K mg base 9 "law" s_law ["script"] m_law := fun base => by
  have F_is_whole : Fu K mg "is_whole" s_is_whole := by
    obtain ⟨fd, F⟩ := c.d.def_ 0 (d := d_is_whole) rfl
    exact ⟨_, fd, F, He.glo_ok X G (c.d.fact 0 (f := .glo "is_whole") rfl)⟩
  have F_is_count : Fu K mg "is_count" s_is_count := by
    obtain ⟨fd, F⟩ := c.d.def_ 1 (d := d_is_count) rfl
    exact ⟨_, fd, F, He.glo_ok X G (c.d.fact 1 (f := .glo "is_count") rfl)⟩
  have F_common_of : Fu K mg "common_of" s_common_of := by
    obtain ⟨fd, F⟩ := c.d.def_ 2 (d := d_common_of) rfl
    exact ⟨_, fd, F, He.glo_ok X G (c.d.fact 2 (f := .glo "common_of") rfl)⟩
  have F_is_poly : Fu K mg "is_poly" s_is_poly := by
    obtain ⟨fd, F⟩ := c.d.def_ 3 (d := d_is_poly) rfl
    exact ⟨_, fd, F, He.glo_ok X G (c.d.fact 3 (f := .glo "is_poly") rfl)⟩
  have F_check_poly : Fu K mg "check_poly" s_check_poly := by
    obtain ⟨fd, F⟩ := c.d.def_ 4 (d := d_check_poly) rfl
    exact ⟨_, fd, F, He.glo_ok X G (c.d.fact 4 (f := .glo "check_poly") rfl)⟩
  have F_cut_poly : Fu K mg "cut_poly" s_cut_poly := by
    obtain ⟨fd, F⟩ := c.d.def_ 5 (d := d_cut_poly) rfl
    exact ⟨_, fd, F, He.glo_ok X G (c.d.fact 5 (f := .glo "cut_poly") rfl)⟩
  have F_worth_in : Fu K mg "worth_in" s_worth_in := by
    obtain ⟨fd, F⟩ := c.d.def_ 6 (d := d_worth_in) rfl
    exact ⟨_, fd, F, He.glo_ok X G (c.d.fact 6 (f := .glo "worth_in") rfl)⟩
  have F_sum_in : Fu K mg "sum_in" s_sum_in := by
    obtain ⟨fd, F⟩ := c.d.def_ 7 (d := d_sum_in) rfl
    exact ⟨_, fd, F, He.glo_ok X G (c.d.fact 7 (f := .glo "sum_in") rfl)⟩
  have F_scaled_in : Fu K mg "scaled_in" s_scaled_in := by
    obtain ⟨fd, F⟩ := c.d.def_ 8 (d := d_scaled_in) rfl
    exact ⟨_, fd, F, He.glo_ok X G (c.d.fact 8 (f := .glo "scaled_in") rfl)⟩
  have F_product_in : Fu K mg "product_in" s_product_in := by
    obtain ⟨fd, F⟩ := c.d.def_ 9 (d := d_product_in) rfl
    exact ⟨_, fd, F, He.glo_ok X G (c.d.fact 9 (f := .glo "product_in") rfl)⟩
  have F_content_in : Fu K mg "content_in" s_content_in := by
    obtain ⟨fd, F⟩ := c.d.def_ 10 (d := d_content_in) rfl
    exact ⟨_, fd, F, He.glo_ok X G (c.d.fact 10 (f := .glo "content_in") rfl)⟩
  have F_lesser_parts : Fu K mg "lesser_parts" s_lesser_parts := by
    obtain ⟨fd, F⟩ := c.d.def_ 11 (d := d_lesser_parts) rfl
    exact ⟨_, fd, F, He.glo_ok X G (c.d.fact 11 (f := .glo "lesser_parts") rfl)⟩
  have F_check_many : Fu K mg "check_many" s_check_many := by
    obtain ⟨fd, F⟩ := c.d.def_ 12 (d := d_check_many) rfl
    exact ⟨_, fd, F, He.glo_ok X G (c.d.fact 12 (f := .glo "check_many") rfl)⟩
  have F_product_by : Fu K mg "product_by" s_product_by := by
    obtain ⟨fd, F⟩ := c.d.def_ 13 (d := d_product_by) rfl
    exact ⟨_, fd, F, He.glo_ok X G (c.d.fact 13 (f := .glo "product_by") rfl)⟩
  have F_falling_poly : Fu K mg "falling_poly" s_falling_poly := by
    obtain ⟨fd, F⟩ := c.d.def_ 14 (d := d_falling_poly) rfl
    exact ⟨_, fd, F, He.glo_ok X G (c.d.fact 14 (f := .glo "falling_poly") rfl)⟩
  have F_rising_poly : Fu K mg "rising_poly" s_rising_poly := by
    obtain ⟨fd, F⟩ := c.d.def_ 15 (d := d_rising_poly) rfl
    exact ⟨_, fd, F, He.glo_ok X G (c.d.fact 15 (f := .glo "rising_poly") rfl)⟩
  have F_differences_at_0 : Fu K mg "differences_at_0" s_differences_at_0 := by
    obtain ⟨fd, F⟩ := c.d.def_ 16 (d := d_differences_at_0) rfl
    exact ⟨_, fd, F, He.glo_ok X G (c.d.fact 16 (f := .glo "differences_at_0") rfl)⟩
  have F_binomial_parts : Fu K mg "binomial_parts" s_binomial_parts := by
    obtain ⟨fd, F⟩ := c.d.def_ 17 (d := d_binomial_parts) rfl
    exact ⟨_, fd, F, He.glo_ok X G (c.d.fact 17 (f := .glo "binomial_parts") rfl)⟩
  have F_made_of_binomials : Fu K mg "made_of_binomials" s_made_of_binomials := by
    obtain ⟨fd, F⟩ := c.d.def_ 18 (d := d_made_of_binomials) rfl
    exact ⟨_, fd, F, He.glo_ok X G (c.d.fact 18 (f := .glo "made_of_binomials") rfl)⟩
  have F_of_binomial_parts : Fu K mg "of_binomial_parts" s_of_binomial_parts := by
    obtain ⟨fd, F⟩ := c.d.def_ 19 (d := d_of_binomial_parts) rfl
    exact ⟨_, fd, F, He.glo_ok X G (c.d.fact 19 (f := .glo "of_binomial_parts") rfl)⟩
  have F_summed_poly : Fu K mg "summed_poly" s_summed_poly := by
    obtain ⟨fd, F⟩ := c.d.def_ 20 (d := d_summed_poly) rfl
    exact ⟨_, fd, F, He.glo_ok X G (c.d.fact 20 (f := .glo "summed_poly") rfl)⟩
  have F__law_hash : Fu K mg "_law_hash" s__law_hash := by
    obtain ⟨fd, F⟩ := c.d.def_ 21 (d := d__law_hash) rfl
    exact ⟨_, fd, F, He.glo_ok X G (c.d.fact 21 (f := .glo "_law_hash") rfl)⟩
  have F__law_random : Fu K mg "_law_random" s__law_random := by
    obtain ⟨fd, F⟩ := c.d.def_ 22 (d := d__law_random) rfl
    exact ⟨_, fd, F, He.glo_ok X G (c.d.fact 22 (f := .glo "_law_random") rfl)⟩
  have F__law_cell : Fu K mg "_law_cell" s__law_cell := by
    obtain ⟨fd, F⟩ := c.d.def_ 23 (d := d__law_cell) rfl
    exact ⟨_, fd, F, He.glo_ok X G (c.d.fact 23 (f := .glo "_law_cell") rfl)⟩
  have F__law_generator : Fu K mg "_law_generator" s__law_generator := by
    obtain ⟨fd, F⟩ := c.d.def_ 24 (d := d__law_generator) rfl
    exact ⟨_, fd, F, He.glo_ok X G (c.d.fact 24 (f := .glo "_law_generator") rfl)⟩
  have F__law_same : Fu K mg "_law_same" s__law_same := by
    obtain ⟨fd, F⟩ := c.d.def_ 25 (d := d__law_same) rfl
    exact ⟨_, fd, F, He.glo_ok X G (c.d.fact 25 (f := .glo "_law_same") rfl)⟩
  have F__law_marked : Fu K mg "_law_marked" s__law_marked := by
    obtain ⟨fd, F⟩ := c.d.def_ 26 (d := d__law_marked) rfl
    exact ⟨_, fd, F, He.glo_ok X G (c.d.fact 26 (f := .glo "_law_marked") rfl)⟩
  have F__law_is_whole : Fu K mg "_law_is_whole" s__law_is_whole := by
    obtain ⟨fd, F⟩ := c.d.def_ 27 (d := d__law_is_whole) rfl
    exact ⟨_, fd, F, He.glo_ok X G (c.d.fact 27 (f := .glo "_law_is_whole") rfl)⟩
  have F__law_divisor : Fu K mg "_law_divisor" s__law_divisor := by
    obtain ⟨fd, F⟩ := c.d.def_ 28 (d := d__law_divisor) rfl
    exact ⟨_, fd, F, He.glo_ok X G (c.d.fact 28 (f := .glo "_law_divisor") rfl)⟩
  have F__law_cut : Fu K mg "_law_cut" s__law_cut := by
    obtain ⟨fd, F⟩ := c.d.def_ 29 (d := d__law_cut) rfl
    exact ⟨_, fd, F, He.glo_ok X G (c.d.fact 29 (f := .glo "_law_cut") rfl)⟩
  have F__law_is_poly : Fu K mg "_law_is_poly" s__law_is_poly := by
    obtain ⟨fd, F⟩ := c.d.def_ 30 (d := d__law_is_poly) rfl
    exact ⟨_, fd, F, He.glo_ok X G (c.d.fact 30 (f := .glo "_law_is_poly") rfl)⟩
  have F__law_worth : Fu K mg "_law_worth" s__law_worth := by
    obtain ⟨fd, F⟩ := c.d.def_ 31 (d := d__law_worth) rfl
    exact ⟨_, fd, F, He.glo_ok X G (c.d.fact 31 (f := .glo "_law_worth") rfl)⟩
  have F__law_drawn : Fu K mg "_law_drawn" s__law_drawn := by
    obtain ⟨fd, F⟩ := c.d.def_ 32 (d := d__law_drawn) rfl
    exact ⟨_, fd, F, He.glo_ok X G (c.d.fact 32 (f := .glo "_law_drawn") rfl)⟩
  have F__law_content : Fu K mg "_law_content" s__law_content := by
    obtain ⟨fd, F⟩ := c.d.def_ 33 (d := d__law_content) rfl
    exact ⟨_, fd, F, He.glo_ok X G (c.d.fact 33 (f := .glo "_law_content") rfl)⟩
  have F__law_binomial : Fu K mg "_law_binomial" s__law_binomial := by
    obtain ⟨fd, F⟩ := c.d.def_ 34 (d := d__law_binomial) rfl
    exact ⟨_, fd, F, He.glo_ok X G (c.d.fact 34 (f := .glo "_law_binomial") rfl)⟩
  have F__law_products_right : Fu K mg "_law_products_right" s__law_products_right := by
    obtain ⟨fd, F⟩ := c.d.def_ 35 (d := d__law_products_right) rfl
    exact ⟨_, fd, F, He.glo_ok X G (c.d.fact 35 (f := .glo "_law_products_right") rfl)⟩
  have F__law_right : Fu K mg "_law_right" s__law_right := by
    obtain ⟨fd, F⟩ := c.d.def_ 36 (d := d__law_right) rfl
    exact ⟨_, fd, F, He.glo_ok X G (c.d.fact 36 (f := .glo "_law_right") rfl)⟩
  have F_law : Fu K mg "law" s_law := by
    obtain ⟨fd, F⟩ := c.d.def_ 37 (d := d_law) rfl
    exact ⟨_, fd, F, He.glo_ok X G (c.d.fact 37 (f := .glo "law") rfl)⟩
  exact all_ok {f_abs := He.free_ok X G (c.d.fact 38 (f := .free "abs") rfl), f_all := He.free_ok X G (c.d.fact 39 (f := .free "all") rfl), f_bool := He.free_ok X G (c.d.fact 40 (f := .free "bool") rfl), f_enumerate := He.free_ok X G (c.d.fact 41 (f := .free "enumerate") rfl), f_int := He.free_ok X G (c.d.fact 42 (f := .free "int") rfl), f_isinstance := He.free_ok X G (c.d.fact 43 (f := .free "isinstance") rfl), f_len := He.free_ok X G (c.d.fact 44 (f := .free "len") rfl), f_list := He.free_ok X G (c.d.fact 45 (f := .free "list") rfl), f_max := He.free_ok X G (c.d.fact 46 (f := .free "max") rfl), f_range := He.free_ok X G (c.d.fact 47 (f := .free "range") rfl), f_repr := He.free_ok X G (c.d.fact 48 (f := .free "repr") rfl), f_str := He.free_ok X G (c.d.fact 49 (f := .free "str") rfl), f_sum := He.free_ok X G (c.d.fact 50 (f := .free "sum") rfl), f_tuple := He.free_ok X G (c.d.fact 51 (f := .free "tuple") rfl), f_zip := He.free_ok X G (c.d.fact 52 (f := .free "zip") rfl), sysd := HX.sysB_ok (c.x 0 (x := HX.sysB) rfl), digd := digB_ok (c.x 1 (x := digB) rfl)} F_is_whole F_is_count F_common_of F_is_poly F_check_poly F_cut_poly F_worth_in F_sum_in F_scaled_in F_product_in F_content_in F_lesser_parts F_check_many F_product_by F_falling_poly F_rising_poly F_differences_at_0 F_binomial_parts F_made_of_binomials F_of_binomial_parts F_summed_poly F__law_hash F__law_random F__law_cell F__law_generator F__law_same F__law_marked F__law_is_whole F__law_divisor F__law_cut F__law_is_poly F__law_worth F__law_drawn F__law_content F__law_binomial F__law_products_right F__law_right F_law
end My
open PySem PySem.W PySem.Calls PyProof.Rows
theorem My.holds (hm : ∀ ns : List Int, ns.length ≤ 63 → (∀ z ∈ ns, Builtin.Int.intBits z ≤ 1048576) → My.m_law [.dat (.list (ns.map .int))] [] = some (.dat (.bool true), [])) : PySem.Challenge.rw_eversame_k18_whole_falling_products.Holds := by
  w_on; o_law
  refine HandSHeadRun.head_any (r := OpenLaw.row PySem.Challenge.rw_eversame_k18_whole_falling_products) (q := view (OpenLaw.row PySem.Challenge.rw_eversame_k18_whole_falling_products).prog [48]) (H := My.hk) (ob := My.ob) (M := 8000) (loose := My.loose) (d := HandSHeadRun.topDef (OpenLaw.row PySem.Challenge.rw_eversame_k18_whole_falling_products).prog 48) (kwd := []) My.ob_eq
    (by kernel_rfl) (fun s => by kernel_rfl) My.run (by kernel_rfl) (by kernel_rfl) (by kernel_rfl) (by rfl) (by first | assumption | decide +kernel) (by decide +kernel) ⟨rfl, rfl, rfl, rfl, rfl, by decide +kernel⟩ ?hw ?hc
  case hw => w_witness2
  case hc =>
    refine DL.walk_ofD (l := PySem.Challenge.rw_eversame_k18_whole_falling_products) (n := 63) (k := 9) (x := "script") (m := My.m_law) rfl (by decide) (by kernel_rfl) ⟨rfl, by decide, by decide⟩ ?F hm
    intro w mg fa h Y G hmg0
    obtain ⟨K, KX, c⟩ := Y
    have hmg : mg ("law" : PySem.Str) = some (.ref fa) := by
      have e : (HandSHeadRun.topDef (OpenLaw.row PySem.Challenge.rw_eversame_k18_whole_falling_products).prog 48).name = ("law" : PySem.Str) := by kernel_rfl
      rw [← e]
      exact hmg0
    obtain ⟨f, fd, F, _, hm', _⟩ := (My.facts (w := w) KX G c h).ex
    have e := hmg.symm.trans hm'
    cases e
    refine ⟨K, fd, KX, fun s v => (L2.FunD.bindsA (ps := ["script"]) F fun _ _ _ _ _ _ us hl => match us, hl with | [_], _ => rfl) s [v] rfl, fun base kb nb => ?_⟩
    obtain ⟨f2, fd2, F2, D2, hm2, _⟩ := (My.facts (w := w) kb nb c base).ex
    have e2 := hmg.symm.trans hm2
    cases e2
    obtain ⟨_, _, _, _, _, _, _, _, _, _, q1, l1, _, _, _⟩ := F.ex
    obtain ⟨_, _, _, _, _, _, _, _, _, _, q2, l2, _, _, _⟩ := F2.ex
    have e3 := l1.symm.trans l2
    cases e3
    exact D2
theorem PySem.Challenge.cw_eversame_k18_whole_falling_products_holds : PySem.Challenge.rw_eversame_k18_whole_falling_products.Holds := by
  exact My.holds fun ns hl hb => My.law_eq hl hb
