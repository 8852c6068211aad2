import PyProof.Rows.All
import Wide.All
import OpenK.AllK
import Wide.FinOn
import PyProof.IsiH_set
import PyProof.FactsAll.object
import KE.KIsAll
import HandS.IsInst
import HandS.ForMost
import HandS.ExcInit
import KE.KExcSuper
import HandS.ExcField
import HandS.ExcIs
import HandS.ExcValue
import KE.KExcIs
import HandS.Defaults
import KE.KDictWalk
import KE.DataEq
import KE.DataCmp
import KE.DataIsa
import PyProof.ReprRoads
import HandS.Wide
import HandS.Flow
import HandS.Style
import HandS.TupAny
import HandS.TupMul
import HandS.WideBits
import HandS.StrMore
import HandS.SortInts
import HandS.Small
import HandS.Comp
import HandS.Zip
import HandS.WordsExc
import PyProof.Rows.StrOr
import HandS.RaiseMore
import PyProof.ListStr
import KE.SortData
import HandS.Text
import HandS.Dict
import PyProof.ReprBulk
import HandS.Ends
import HandS.EndBits
import HandS.Head0
import HandS.Head1
import HandS.Head2
import HandS.HeadEnd
import HandS.HeadHook1
import HandS.HeadHook2
import KE.DataAny
import HandS.Conv
import PySem.Challenge.RW_eversame_k04_fractions_refused
set_option Elab.async false
set_option linter.all false
set_option maxRecDepth 100000
set_option maxHeartbeats 0
/-! FK: isinstance of a def's object. -/
namespace PySem
open Sem (wp)
namespace FK
theorem slot_ga : Slot "function" "__getattribute__" "object.__getattribute__" :=
  .of (owner := "object") (n := "__getattribute__") (by rw [typeLookup_type, builtinLookup_eq_fast]; kernel_rfl) (by decide +kernel) (by decide +kernel) (by decide +kernel)
    (by first | exact .inl (by decide +kernel) | exact .inr (by decide +kernel)) (by rw [isSubtype_type]; kernel_rfl)
theorem lk_class : typeLookup (.type "function") "__class__" = pure (some (.builtin "object.__class__")) := by rw [typeLookup_type, builtinLookup_eq_fast]; kernel_rfl
theorem sub_class_owner : isSubtype (.type "function") (.type (".".intercalate ("object.__class__".cutAt '.').dropLast)) = pure true := by
  rw [F.owner_object_class, isSubtype_type]; kernel_rfl
end FK
section
variable {prog : Program} {w : World} {A : Around} {E : Value → Shared → Prop} {h : Heap} {g : Array GenState} {d : Drawn} {t : Nat} {os : OsState} {a : Addr} {o : Obj}
theorem fk_get {R : Result → Shared → Prop} (hx : h.get? a = some o) (hc : o.cls = .type "function") (hq : R (.ok (.ret (.type "function"))) ⟨h, g, d, t, os⟩) :
    codeAny (model prog w) A (.call (.builtin "getset_descriptor.__get__") ⟨[.builtin "object.__class__", .ref a, .type "function"], []⟩) R ⟨h, g, d, t, os⟩ := by
  have hT : (⟨h, g, d, t, os⟩ : Shared).TypeIs (.ref a) "function" := ⟨_, hx, hc⟩
  have hT5 : (⟨h, g, d, t, os⟩ : Shared).TypeIs (.builtin "object.__class__") "getset_descriptor" := F.typeOf_object_class
  have f8 := FK.sub_class_owner
  refine codeAny_call_builtin F.slot_gs_get.plain F.entry_gs_get (F.slot_gs_get.check _ _ _ _ _ _ _ _ hT5 (F.args_gs_get _ _ _) ?_)
  repeat (any_goals (first | assumption | wp_step))
  refine ⟨Code.quiet_builtin _ (by decide +kernel), codeAny_builtin F.entry_object_class ?_⟩
  repeat (any_goals (first | assumption | wp_step))
theorem fk_entry {tk : Tok} {Q : Fin → Shared → Prop} (hx : h.get? a = some o) (hc : o.cls = .type "function") (hq : Q (.done (.ret (.type "function"))) ⟨h, g, d, t, os⟩) :
    wpAny (model prog w) A (Builtin.«object.__getattribute__» ⟨[.ref a, .str "__class__" tk], []⟩) Q E ⟨h, g, d, t, os⟩ := by
  have hT : (⟨h, g, d, t, os⟩ : Shared).TypeIs (.ref a) "function" := ⟨_, hx, hc⟩
  have hT5 : (⟨h, g, d, t, os⟩ : Shared).TypeIs (.builtin "object.__class__") "getset_descriptor" := F.typeOf_object_class
  have f4 := FK.lk_class
  have f5 := F.typeOf_object_class
  have f6 := F.slot_gs_get.lookup
  have f7 := F.slot_gs_set.lookup
  repeat (any_goals (first | assumption | wp_step))
  refine fk_get hx hc ?_
  repeat (any_goals (first | assumption | wp_step))
theorem fk_call {tk : Tok} {R : Result → Shared → Prop} (hx : h.get? a = some o) (hc : o.cls = .type "function") (hq : R (.ok (.ret (.type "function"))) ⟨h, g, d, t, os⟩) :
    codeAny (model prog w) A (.call (.builtin "object.__getattribute__") ⟨[.ref a, .str "__class__" tk], []⟩) R ⟨h, g, d, t, os⟩ :=
  codeAny_call_builtin FK.slot_ga.plain F.entry_object_getattribute (FK.slot_ga.check _ _ _ _ _ _ _ _ (show (⟨h, g, d, t, os⟩ : Shared).TypeIs (.ref a) "function" from ⟨_, hx, hc⟩) (F.args_object_getattribute_2 _ _) (fk_entry hx hc hq))
theorem fk_by {tk : Tok} {Q : Value → Shared → Prop} (hx : h.get? a = some o) (hc : o.cls = .type "function") (hq : Q (.type "function") ⟨h, g, d, t, os⟩) : wpAny (model prog w) A (getAttrBy (.ref a) (.str "__class__" tk) false) Q E ⟨h, g, d, t, os⟩ := by
  have hT : (⟨h, g, d, t, os⟩ : Shared).TypeIs (.ref a) "function" := ⟨_, hx, hc⟩
  have f2 := FK.slot_ga.lookup
  have f3 := FK.slot_ga.bind (.ref a)
  repeat (any_goals (first | assumption | wp_step))
  refine fk_call hx hc ?_
  repeat (any_goals (first | assumption | wp_step))
theorem fk_attr {Q : Option Value → Shared → Prop} (hx : h.get? a = some o) (hc : o.cls = .type "function") (hq : Q (some (.type "function")) ⟨h, g, d, t + 1, os⟩) : wpAny (model prog w) A (getAttr? (.ref a) "__class__") Q E ⟨h, g, d, t, os⟩ := by
  unfold getAttr? getAttrBy?
  repeat (any_goals (first | assumption | with_reducible apply fk_by hx hc | wp_step))
end
theorem fk_kit {K : W.Frag} {a : Addr} : W.KitX K (.ref a) (.type "function") (W.KitAt a "function") := W.kitx_of W.kitAt_ty (fun {_ _ _ _ _ s} p k => by obtain ⟨h, g, d, t, os⟩ := s; obtain ⟨o, h1, h2⟩ := p; exact fk_attr h1 h2 k)
end PySem
/-! EX1: an own exception class, and its subclasses, whose __init__ says super().__init__(value); self.value = value: the walk of __init__, and of the making. -/
namespace SEX
open PySem PySem.W PySem.Calls PyProof.Rows PySem.HandSPX
def iA (p1 p2 : Pos) : Arguments := { posonlyargs := [], args := [{ arg := "self", annotation := none, pos := p1 }, { arg := "value", annotation := none, pos := p2 }], vararg := none, kwonlyargs := [], kw_defaults := [], kwarg := none, defaults := [] }
def iB (q1 q2 q3 q4 q5 q6 q7 q8 q9 q10 : Pos) : List Stmt := [.Expr (.Call (.Attribute (.Call (.Name "super" q1) [] [] q2) "__init__" q3) [.Name "value" q4] [] q5) q6, .Assign [.Attribute (.Name "self" q7) "value" q8] (.Name "value" q9) q10]
def iS : Scope := { kind := .function, names := [(PySem.Str.ofString "self", .local), (PySem.Str.ofString "value", .local), (PySem.Str.ofString "__class__", .free), (PySem.Str.ofString "super", .globalImplicit)], isGenerator := false, isCoroutine := false, more := [] }
/-- what the written part says of the class that has __init__, at D, and of its __init__, at fI -/
structure SeTxt (prog : Program) (K : Frag) (qual : Str) (D fI : Addr) : Prop where
  fn : ∃ (oc : Value) (od : Option Addr) (doc pm : Value) (an : Option Addr) (cda cc : Addr) (ct : Value) (osl : Array (Option Value)) (p1 p2 q1 q2 q3 q4 q5 q6 q7 q8 q9 q10 : Pos),
    (q3.endLine == q5.line) = true ∧ K.lookup fI = some ⟨oc, od, .func (ksFn "__init__" qual (iA p1 p2) (iB q1 q2 q3 q4 q5 q6 q7 q8 q9 q10) iS .none .none doc pm an (.ref cda) ct cc), osl⟩ ∧ codeIn K (.ref cda) qual = true ∧
    (∃ (ccl : Value) (cdd : Option Addr) (vs : Array Value) (ccs : Array (Option Value)) (file : Str) (tf : Tok), K.lookup cda = some ⟨ccl, cdd, .fields vs, ccs⟩ ∧ vs[2]? = some (.str file tf) ∧ ((prog.main.file : Str) == file) = true) ∧
    ∃ (cl : Value) (cld : Option Addr) (csl : Array (Option Value)), K.lookup cc = some ⟨cl, cld, .cell (some (.ref D)), csl⟩
  hD : (clsIn K D).isSome = true
  top : (prog.main.scope.names.lookup ("super" : Str)).isSome = false
  op : nsIn K cStatics "thirdparty.any" = some none
/-- what it says of a class that is raised, at C -/
structure SeCls (K : Frag) (D fI C : Addr) : Prop where
  cls : ∃ nm q N bs bm sn sub ab col dd k0 k1 k2 k3 k5, K.lookup C = some (excClassObj nm q C N bs bm true sn sub ab col dd k0 k1 k2 k3 k5 "ValueError.__new__") ∧ refsVE bm = true
  sa : findIn K (.ref C) "__setattr__" = some (some (.builtin "object.__setattr__"))
  noV : findIn K (.ref C) "value" = some none
  iC : findIn K (.ref C) "__init__" = some (some (.ref fI))
  tI : typeIn K (.ref fI) = some (.type "function")
  kC : keepIn K (.ref C) = true
  exC : subIn K (.ref C) (.type "BaseException") = some true
  veC : subIn K (.ref C) (.type "ValueError") = some true
  tyC : typeIn K (.ref C) = some (.type "type")
  mD : mroIn K C (.ref D) = some true
  su : ks_superIn K C D "__init__" = some (some (.builtin "ValueError.__init__"))
/-- what __init__ leaves of a fresh exception at x -/
structure InitEnd (h h' : Heap) (x C dx : Addr) (v : Value) : Prop where
  keep : ∀ b o, b ≠ x → h.get? b = some o → h'.get? b = some o
  obj : ∃ t1 : Addr, h'.get? x = some { cls := .ref C, dict := some dx, data := .fields #[.ref t1, .none, .none, .none, .bool false, .none] }
  dbig : h.objs.size ≤ dx
  dne : dx ≠ x
  ns : h'.Ns1 dx (fun y => if y = "value" then some v else none)
section
variable {prog : Program} {w : World} {A : Around} {E : Value → Shared → Prop} {R : Result → Shared → Prop} {s : Shared} {K : Frag} {mg mb : Str → Option Value} {qual : Str} {D C fI : Addr}
theorem mcpos {few : Bool} {o : Expr} {env : Env} {apos pos : Pos} (h : (apos.endLine == pos.line) = true) : methodCallPos few o env apos pos = pure pos := by
  unfold methodCallPos
  rw [h, Bool.or_true, if_pos rfl]
theorem mceval {env : Env} {args : List Expr} {name : Str} {apos pos : Pos} {p1 p2 : Pos} {x : Str} (h : (apos.endLine == pos.line) = true) (hf : methodCallForm args.length (backTo pos (starEach args env)) [] = true) : eval (.Call (.Attribute (.Call (.Name x p1) [] [] p2) name apos) args [] pos) env = (do
      let ov ← attributeBase (.Call (.Name x p1) [] [] p2) name env (eval (.Call (.Name x p1) [] [] p2) env)
      standAt apos.atName
      let (f, first) ← holding [ov] (getMethod ov name (do return (← importBound (.Call (.Name x p1) [] [] p2) env).getD true))
      callWith pos f first (backTo pos (starEach args env)) []) := by
  show (do
    let ov ← attributeBase (.Call (.Name x p1) [] [] p2) name env (eval (.Call (.Name x p1) [] [] p2) env)
    standAt apos.atName
    methodCall (.Call (.Name x p1) [] [] p2) name apos pos env ov args.length (backTo pos (starEach args env)) []) = _
  unfold methodCall
  rw [mcpos h, hf]
  rfl
/-- the built-in __init__ bound to a fresh exception, called -/
theorem call_mw {h : Heap} {g : Array GenState} {d : Drawn} {t : Nat} {os : OsState} {u e t0 : Addr} {rest : List Value} {Q : Value → Shared → Prop} {nm q : Str} {N : Addr} {bs bm : List Value} {sn : List Str} {sub : List Value} {ab : Bool} {col : Option Bool} {dd : Option Addr} {k0 k1 k2 k3 k5 : Option Value}
    (hC : h.get? C = some (excClassObj nm q C N bs bm true sn sub ab col dd k0 k1 k2 k3 k5 "ValueError.__new__")) (he : h.get? e = some (excO C t0)) (hu : h.get? u = some (kxs_mw "ValueError.__init__" e)) (hrest : rest.length ≤ sizeLine)
    (hq : ∀ h' t1, (∀ b o, b ≠ e → h.get? b = some o → h'.get? b = some o) → h'.get? e = some (excO C t1) → Q .none ⟨h', g, d, t, os⟩) :
    wpAny (model prog w) A (call (.ref u) rest) Q E ⟨h, g, d, t, os⟩ := by
  refine wpAny_call (codeAny_of_tree ?_)
  show wpAny _ A.in1 (callAny (.ref u) ⟨rest, []⟩) _ _ _
  simp only [callAny]
  refine wpAny_bind (wpAny_load hu ?_)
  simp only [kxs_mw, show (Value.type "method-wrapper" == Value.type "method" || Value.type "method-wrapper" == Value.type "builtin_function_or_method" || Value.type "method-wrapper" == Value.type "method-wrapper") = true by decide, if_true]
  refine W.KFB.if_so (by decide) ?_
  refine wpAny_bind (check_bound_init F.excBase_ValueError.toExcCallFacts hC he rfl ?_)
  refine wpAny_bind (wpAny_pure (wpAny_pure ?_))
  refine ⟨Code.quiet_builtin _ (by decide +kernel), codeAny_builtin F.excBase_ValueError.initEntry ?_⟩
  rw [Around.under_plainId F.excBase_ValueError.init.plain _]
  wp_walk
  refine hq _ h.objs.size (fun b o hb ho => ?_) ?_
  · rw [Heap.get?_update_other _ _ (Ne.symm hb)]
    exact Heap.get?_push_of_some _ ho
  · rw [Heap.get?_update_self _ (Heap.get?_push_of_some _ he) rfl]
    rfl
theorem one_size (v : Value) : [v].length ≤ sizeLine := by
  rw [sizeLine_eq]
  exact (by decide : 1 ≤ 16777216)
theorem se_init (T : SeTxt prog K qual D fI) (TC : SeCls K D fI C) {x t0 : Addr} {v : Value} (X : K.In s.heap) (hlim : s.heap.NoLimit) (hg : s.heap.Ns mainGlobals mg) (hms : mg "super" = none) (hb : s.heap.Ns builtinsNs mb) (hmb : mb "super" = bootBuiltins "super")
    (hx : s.heap.get? x = some (excO C t0)) (hnx : K.lookup x = none) (hroom : A.depth < recursionLimit)
    (hq : ∀ h' tk dx, InitEnd s.heap h' x C dx v → R (.ok (.ret .none)) { s with heap := h', toks := tk }) :
    codeAny (model prog w) A (.call (.ref fI) ⟨[.ref x, v], []⟩) R s := by
  obtain ⟨⟨oc, od, doc, pm, an, cda, cc, ct, osl, p1, p2, q1, q2, q3, q4, q5, q6, q7, q8, q9, q10, hql, ho, hcd, ⟨ccl, cdd, vs, ccs, file, tf, hcda, hvs, hfile⟩, cl, cld, csl, hcc⟩, hDs, htop, hop⟩ := T
  obtain ⟨cdD, hD⟩ := Option.isSome_iff_exists.mp hDs
  obtain ⟨nm, q, N, bs, bm, sn, sub, ab, col, dd, k0, k1, k2, k3, k5, hC, hbm⟩ := TC.cls
  have hcl : clsIn K C = some { name := nm, bases := bs, mro := .ref C :: bm, ns := N, qualname := q, hasDict := true, slotNames := sn, subclasses := sub, abstract := ab, collection := col, hasDel := false } := by unfold clsIn; rw [hC] <;> rfl
  refine ks_codeAny_call_defAt (fd := ksFn "__init__" qual (iA p1 p2) (iB q1 q2 q3 q4 q5 q6 q7 q8 q9 q10) iS .none .none doc pm an (.ref cda) ct cc) (body := iB q1 q2 q3 q4 q5 q6 q7 q8 q9 q10) (binds := [("self", .ref x), ("value", v)]) hroom (X _ _ ho) rfl hlim (codeRec_of X hcd) rfl
    (BindsTo.of_eq (by first | rfl | with_unfolding_all rfl)) (show ∀ x ∈ iS.names, x.2 ≠ .cell by decide) (by intro y hy; first | (simp only [List.mem_cons, List.not_mem_nil, or_false] at hy; rcases hy with rfl | rfl <;> rfl)) (fun h₁ hn k => ?_) rfl rfl rfl
  have X₁ : K.In h₁ := X.keeps k
  have hx₁ := k _ _ hx
  have hvx : List.lookup ("self" : Str) ([(("self" : Str), Value.ref x), (("value" : Str), v)] : List (Str × Value)).reverse = some (Value.ref x) := by first | rfl | with_unfolding_all rfl | kernel_rfl
  have hvv : List.lookup ("value" : Str) ([(("self" : Str), Value.ref x), (("value" : Str), v)] : List (Str × Value)).reverse = some v := by first | rfl | with_unfolding_all rfl | kernel_rfl
  have hL : s.heap.objs.size < h₁.objs.size := hn.lt
  have hxL : s.heap.objs.size ≠ x := Nat.ne_of_gt (Heap.lt_size hx)
  obtain ⟨oD, hD1, hD2⟩ : ∃ oD, h₁.get? D = some oD ∧ oD.data = .cls cdD := by
    unfold clsIn at hD
    split at hD
    · rename_i c d cd' sl ho
      cases hD
      exact ⟨_, X₁ _ _ ho, rfl⟩
    · cases hD
  have hsu := TC.su
  unfold ks_superIn at hsu
  rw [hcl] at hsu
  -- super().__init__(value)
  refine ks_wpAt_execs_cons (ks_wpAt_Expr_any (ks_wpAt_MethodCall (he := mceval hql (by rfl)) ?_))
  refine ks_wpAt_super_base (env := callEnv (ksFn "__init__" qual (iA p1 p2) (iB q1 q2 q3 q4 q5 q6 q7 q8 q9 q10) iS .none .none doc pm an (.ref cda) ct cc) s.heap.objs.size fI) (by rfl) (by rfl) (by decide +kernel) rfl (X₁ _ _ ho) rfl (by rfl) rfl (X₁ _ _ hcda) rfl hvs hfile htop ?_
  refine ks_loadName_global (by rfl) (by rfl) (loadGlobal_builtin (hg.keeps k) hms (hb.keeps k) hmb ⟨rfl, ?_⟩)
  refine wpAny_loadName_free (by rfl) (by rfl) (by rfl) ⟨_, X₁ _ _ hcc, rfl⟩ ?_
  refine wpAny_loadName_local (by rfl) (by rfl) hn hvx ?_
  refine ks_wpAny_isType_cls hD1 hD2 ⟨rfl, ?_⟩
  refine ks_wpAny_call_super hD1 hD2 hx₁ rfl (fun c e => by cases e) (looks_mroIn X₁ TC.mD) (fun h₂ e₂ k₂ => ?_)
  have X₂ : K.In h₂ := X₁.keeps k₂
  have hx₂ := k₂ _ _ hx₁
  have I₂ : InstAt h₂ x (excO C t0) C none := ⟨hx₂, rfl, rfl, trivial⟩
  refine kxs_getMethod kxs_ValueError (h := h₂) e₂ (looks_opaque X₂ hop) (l₀ := .ref C :: bm) (fun A Q E s k q => wpAny_bind ((looks_clsIn X₂ hcl) A _ E s k (wpAny_pure q))) rfl X₂ hsu (I₂.type.andThen (looks_subIn X₂ TC.veC)) (ks_ne X₂ I₂ hcl) (by decide +kernel) ?_
  have k₃ : ∀ b o, h₂.get? b = some o → (h₂.push (kxs_mw "ValueError.__init__" x)).get? b = some o := fun b o e => Heap.get?_push_of_some _ e
  have e₃ : (h₂.push (kxs_mw "ValueError.__init__" x)).get? h₂.objs.size = some (kxs_mw "ValueError.__init__" x) := Heap.get?_push_at rfl rfl
  have hn₃ := (hn.keeps k₂).keeps k₃
  refine kxs_callWith (i := "ValueError.__init__") (x := x) (by rfl) (evalArgs_plain ?_)
  refine Calls.spliced_cons (wpAny_Name (wpAny_loadName_local (by rfl) (by rfl) hn₃ hvv ?_) (by decide))
  refine Calls.spliced_nil ⟨e₃, ?_⟩
  refine call_mw (h := h₂.push (kxs_mw "ValueError.__init__" x)) (X.keeps k |>.keeps k₂ |>.keeps k₃ |> fun Y => Y _ _ hC) (k₃ _ _ hx₂) e₃ (one_size v) fun h₄ t1 k₄ hx₄ => ?_
  have kk : ∀ b o, b ≠ x → s.heap.get? b = some o → h₄.get? b = some o := fun b o hb e => k₄ b o hb (k₃ _ _ (k₂ _ _ (k _ _ e)))
  have X₄ : K.In h₄ := fun a o e => kk a o (fun z => by rw [z, hnx] at e; cases e) (X a o e)
  have hn₄ := hn₃.at fun o e => k₄ _ _ hxL e
  -- self.value = value
  show PySem.wpAt _ _ _ (execs _ _) _ _ _
  refine ks_wpAt_execs_cons (ks_wpAt_Assign_Attr (wpAt_of_wpAny (wpAny_Name (wpAny_loadName_local (by rfl) (by rfl) hn₄ hvv ?_) (by decide))))
  refine wpAny_Name (wpAny_loadName_local (by rfl) (by rfl) hn₄ hvx ?_) (by decide)
  refine set_plain X₄ (ox := excO C t1) (od := none) ⟨hx₄, rfl, rfl, trivial⟩ TC.sa ?_
  refine exc_osa X₄ hx₄ hcl (show refsVE (.ref C :: bm) = true from hbm) rfl TC.noV (fun h₅ tk₅ dx k₅ dn dne hx₅ hn₅ => ?_)
  have z : s.heap.objs.size ≤ dx := by
    obtain ⟨o, es, ep, e, _⟩ := hn₄
    exact Nat.le_trans (Nat.le_of_lt (Heap.lt_size e)) dn
  show PySem.wpAt _ _ _ (execs _ _) _ _ _
  exact wpAt_of_wpAny (wpAny_execs_nil (hq h₅ tk₅ dx ⟨fun b o hb e => k₅ b o hb (kk b o hb e), ⟨t1, hx₅⟩, z, dne, hn₅⟩))
/-- a made exception of the class at C, with its value -/
structure OwnMade (h h' : Heap) (e C d : Addr) (v : Value) : Prop where
  keep : ∀ b o, h.get? b = some o → h'.get? b = some o
  new : h.objs.size ≤ e
  obj : ∃ oe vs, h'.get? e = some oe ∧ oe.cls = .ref C ∧ oe.dict = some d ∧ oe.data = .fields vs ∧ vs[1]? = some .none
  dbig : h.objs.size ≤ d
  dne : d ≠ e
  ns : h'.Ns1 d (fun y => if y = "value" then some v else none)
theorem se_made (T : SeTxt prog K qual D fI) (TC : SeCls K D fI C) {v : Value} (X : K.In s.heap) (hlim : s.heap.NoLimit) (hg : s.heap.Ns mainGlobals mg) (hms : mg "super" = none) (hb : s.heap.Ns builtinsNs mb) (hmb : mb "super" = bootBuiltins "super") (hroom : A.depth + 1 < recursionLimit)
    (hq : ∀ h' tk e d, OwnMade s.heap h' e C d v → R (.ok (.ret (.ref e))) { s with heap := h', toks := tk }) :
    codeAny (model prog w) A (.call (.ref C) ⟨[v], []⟩) R s := by
  obtain ⟨nm, q, N, bs, bm, sn, sub, ab, col, dd, k0, k1, k2, k3, k5, hC, hbm⟩ := TC.cls
  obtain ⟨hp, g, dr, tk, os⟩ := s
  have k : ∀ b o, hp.get? b = some o → ((hp.push (kdv_tup [v])).push (excO C hp.objs.size)).get? b = some o := fun b o e => Heap.get?_push_of_some _ (Heap.get?_push_of_some _ e)
  have hget : ((hp.push (kdv_tup [v])).push (excO C hp.objs.size)).get? (hp.objs.size + 1) = some (excO C hp.objs.size) := by heap_get
  have hnx : K.lookup (hp.objs.size + 1) = none := by
    cases e : K.lookup (hp.objs.size + 1) with
    | none => rfl
    | some o =>
      have z : hp.get? (hp.objs.size + 1) = some o := X _ _ e
      exact absurd (Nat.lt_of_succ_lt (Heap.lt_size z)) (Nat.lt_irrefl _)
  refine call_own F.excBase_ValueError (fun X => refsVE_contains X bm hbm) (X _ _ hC) (looks_findIn X TC.iC) (fun self => bind_fn X self TC.tI) (one_size v) ?_
  refine se_init (s := ⟨(hp.push (kdv_tup [v])).push (excO C hp.objs.size), g, dr, tk, os⟩) T TC (X.keeps k) (hlim.keeps k) (hg.keeps k) hms (hb.keeps k) hmb hget hnx ?_ fun h' tk' dx ⟨k', hx, dn, dne, hns⟩ => ?_
  · show A.depth + 1 < recursionLimit
    exact hroom
  · obtain ⟨t1, hx⟩ := hx
    have old : ∀ b o, hp.get? b = some o → h'.get? b = some o := fun b o e => k' b o (Nat.ne_of_lt (Nat.lt_succ_of_lt (Heap.lt_size e))) (k b o e)
    have z : hp.objs.size + 1 + 1 ≤ dx := by
      first
        | (simpa only [Heap.size_push] using dn)
        | exact dn
        | (have q := dn; rw [Heap.size_push, Heap.size_push] at q; exact q)
    exact ⟨rfl, hq h' tk' (hp.objs.size + 1) dx ⟨old, Nat.le_succ _, ⟨_, _, hx, rfl, rfl, rfl, rfl⟩, Nat.le_trans (Nat.le_trans (Nat.le_succ _) (Nat.le_succ _)) z, dne, hns⟩⟩
end
end SEX
namespace L2
open PySem PySem.Spec PyProof.Rows
theorem relO_val {v : V} {v' : Value} (r : RelV v v') (f : Str) : RelO (List.lookup f [(("value" : Str), v)]) (if f = "value" then some v' else none) := by
  by_cases hw : f = "value"
  · subst hw
    rw [if_pos rfl]
    have q : List.lookup ("value" : Str) [(("value" : Str), v)] = some v := by simp [List.lookup]
    rw [q]
    exact r
  · rw [if_neg hw]
    have qw : (f == ("value" : Str)) = false := by simpa using hw
    have q2 : List.lookup f [(("value" : Str), v)] = none := by simp [List.lookup, qw]
    rw [q2]
    trivial
section
variable {X : Cx} {C D fI : Addr} {qual : Str}
/-- C(e), e's value kept -/
def tMkS (C : Addr) (ta : TA) : St → Hp → XK → Prop := fun σ H Q => ta σ H fun vs H1 => ∃ v, vs = [v] ∧ ∀ d, H1 d = none → Q (.ref C) (some d) (upd H1 d (.xd [(("value" : Str), v)]))
theorem pmk_se {x : Str} {a : Expr} {ta : TA} {p pos : Pos} {k : Nat} (T : SEX.SeTxt X.prog X.K qual D fI) (TC : SEX.SeCls X.K D fI C) (gC : X.mg x = some (.ref C)) (hms : X.mg "super" = none) (hr : Room k X.A) (ha : PA X [a] ta) (hg : Gl X x)
    (hdb : (x == ("__debug__" : Str)) = false := by decide) (he : starEach (a :: []) X.env = (false, eval a X.env) :: starEach [] X.env := by rfl) (hpl : (backTo pos (starEach [] X.env)).any (·.1) = false := by rfl) :
    PMk X (.Call (.Name x p) [a] [] pos) (tMkS C ta) := by
  intro pins s σ H Q I h
  refine wpAny_Call_Name_kw (ld_glob I hg gC ?_ hdb)
  refine PySem.W.callWith_K (h₀ := X.base) I.ok.mod.kin TC.kC (thn (ha.run pos pins s σ H _ I h) fun us s1 hh => ?_) he hpl
  obtain ⟨vs, H1, I1, r1, v, ev, q1⟩ := hh
  subst ev
  refine ⟨I1.kIn, ?_⟩
  cases r1 with
  | cons rv rn =>
    rename_i v' us'
    cases rn
    show wpAny _ _ (call (.ref C) [v']) _ _ _
    have hlim := I1.nolimit
    obtain ⟨mb, hb1, hb2⟩ := I1.mod.blt
    have hglob := I1.mod.glob.keeps I1.bk
    have hblt := hb1.keeps I1.bk
    obtain ⟨hp, g, dr, tk, os⟩ := s1
    refine wpAny_call (SEX.se_made (mb := mb) T TC I1.kIn hlim hglob hms hblt (hb2 "super" (by decide)) (by have := hr.dp; omega) fun h' tk' e d M => ?_)
    show MkP X pins σ Q (.ref e) ⟨h', g, dr, tk', os⟩
    obtain ⟨oe, fv, hoe, hc, hd, hdat, h1⟩ := M.obj
    have hns := M.ns
    obtain ⟨G', g1, g2⟩ := restrict h' fun b => decide (b ≠ e)
    have gk : ∀ b, b ≠ e → G'.get? b = h'.get? b := fun b hb => g1 b (decide_eq_true hb)
    have ge : G'.get? e = none := g2 e (by simp)
    have old : ∀ b o, hp.get? b = some o → G'.get? b = some o := fun b o q => (gk b (Nat.ne_of_lt (Nat.lt_of_lt_of_le (Heap.lt_size q) M.new))).trans (M.keep b o q)
    have ob : ObjOk X.prog X.w (upd H1 d (.xd [(("value" : Str), v)])) G' d (.xd [(("value" : Str), v)]) :=
      ⟨_, hns.at (fun o q => (gk d M.dne).trans q), fun f => relO_val rv f⟩
    have J : Inv X pins σ (upd H1 d (.xd [(("value" : Str), v)])) ⟨G', g, dr, tk', os⟩ := I1.laid (t' := tk') old M.dbig ob
    refine ⟨e, oe, fv, ⟨G', g, dr, tk', os⟩, _, .ref C, some d, rfl, J, fun b o q => ?_, ge, hoe, ⟨hc, hd⟩, hdat, h1, ?_, rfl, I1.bare, raises_own TC.exC TC.tyC, q1 d (I1.hok.fresh M.dbig)⟩
    · by_cases hb : b = e
      · have q' : G'.get? b = some o := q
        rw [hb, ge] at q'; cases q'
      · exact (gk b hb).symm.trans q
    · rw [upd_ne (Ne.symm M.dne)]
      exact I1.hok.fresh M.new
end
end L2
/-! EX2: a caught exception that outlives its except suite: kept as a tracked object; its field, isinstance of it. -/
namespace L2
open PySem PySem.Spec PyProof.Rows
/-- a caught exception of the class cls, its dict d, at a -/
def exv (a : Addr) (cls : Value) (d : Option Addr) : HO := .ext fun h => ∃ (oe : Obj) (vs : Array Value), h.get? a = some oe ∧ Zc cls d oe ∧ oe.data = .fields vs
theorem exv_ok {P : Program} {w : World} {H : Hp} {h : Heap} {a : Addr} {cls : Value} {d : Option Addr} {oe : Obj} (e : h.get? a = some oe) (z : Zc cls d oe) (hd : ∃ vs, oe.data = .fields vs) : ObjOk P w H h a (exv a cls d) := by
  obtain ⟨vs, hd⟩ := hd
  exact ⟨⟨oe, vs, e, z, hd⟩, ⟨oe, e⟩, fun _ _ ⟨o, v, q, r⟩ k => ⟨o, v, k o q, r⟩⟩
section
variable {X : Cx} {pins : List (Addr × Obj)} {σ : St} {H : Hp} {s : Shared}
/-- an object that stands in the heap and is new is tracked from now on -/
theorem Inv.track {a : Addr} {o : HO} (I : Inv X pins σ H s) (na : H a = none) (n0 : X.s_0.heap.get? a = none) (nL : a ≠ X.env.locals) (nC : ∀ x c, X.env.cells.lookup x = some c → c ≠ a) (nP : ∀ p ∈ X.pn ++ pins, p.1 ≠ a) (new : ObjOk X.prog X.w (upd H a o) s.heap a o) : Inv X pins σ (upd H a o) s := by
  have ne0 : ∀ b u, X.s_0.heap.get? b = some u → b ≠ a := fun b u e z => by
    rw [z, n0] at e
    cases e
  refine ⟨I.ok, I.os, I.bare, ⟨I.base.keep, I.base.slot, fun b u e n hx => ?_, I.base.there, fun b xs e => ?_, fun b u v e => ?_, fun b ps e => ?_⟩, I.loc, I.cell, ?_, fun x c e => ?_, fun p hp => ?_, I.hok.laidN (fun _ _ q => q) na new, I.len⟩
  · rw [upd_ne (ne0 b u e)]
    exact I.base.free b u e n hx
  · have q := I.base.tups b xs e
    rw [upd_ne (ne_of_none q na)]
    exact q
  · have q := I.base.frzs b u v e
    rw [upd_ne (ne_of_none q na)]
    exact q
  · obtain ⟨m, q⟩ := I.base.tbls b ps e
    exact ⟨m, by rw [upd_ne (ne_of_none q na)]; exact q⟩
  · rw [upd_ne (Ne.symm nL)]
    exact I.free
  · rw [upd_ne (nC x c e)]
    exact I.freeC x c e
  · obtain ⟨e, n, ne, nf, d⟩ := I.pin p hp
    exact ⟨e, by rw [upd_ne (nP p hp)]; exact n, ne, nf, d⟩
end
/-- the catch: the exception is kept as a tracked object where the suite goes on -/
def wKp (K : PySem.W.Frag) (c : Value) (i : Nat) (ts : Addr → Value → Option Addr → TS) (Wout : WX) (D : Ends) : WX := fun cls d σ H =>
  ∃ b, PySem.W.exmOne K cls c = some b ∧ (b = true → ∀ a, H a = none → ts a cls d { nx := fun σ' H' => D.nx (σ'.set i none) (upd H' a (exv a cls d)), rt := D.rt, bk := fun σ' H' => D.bk (σ'.set i none) H', ct := fun σ' H' => D.ct (σ'.set i none) H' } (σ.set i (some (.ref a))) H) ∧
    (b = false → Wout cls d σ H)
section
variable {X : Cx} {x n : Str} {c : Value} {i : Nat} {body suite : List Stmt} {b₀ : Stmt} {np pos pos' : Pos} {tb : WX → TS} {ts : Addr → Value → Option Addr → TS} {Wout : WX}
theorem ps_try_keep (hex : X.ex = []) (hs : X.stack = X.env :: X.outer) (hf : X.env.frame = some X.env.locals) (hN : X.N.Nodup) (hi : X.N[i]? = some n) (hln : X.env.kindOf n = some .local) (hc : Names X x c) (tk : Takes X Wout)
    (hb : ∀ (W : WX) (pn : List (Addr × Obj)) (xe : Value → Shared → Prop), Takes (X.tr pn xe) W → PassesOwn (model X.prog X.w) X.A X.env xe → PSs (X.tr pn xe) body (tb W))
    (hsu : ∀ (a : Addr) (oe : Obj) (cls : Value) (d : Option Addr) (pn : List (Addr × Obj)), Zc cls d oe → (∃ vs, oe.data = .fields vs) → PSs (X.suite a ((a, oe) :: pn)) (b₀ :: suite) (ts a cls d)) :
    PS X (.Try body [.ExceptHandler (some (.Name x np)) (some n) (b₀ :: suite) pos'] [] [] pos) (fun D σ H => tb (wKp X.K c i ts Wout D) D σ H) := by
  refine ⟨fun pins s σ H D I h => ?_⟩
  have ok := I.ok
  have hfr : X.A.frames = some (X.env :: X.outer) := by rw [ok.frames, hs]
  have hloc : Loc X.env.scope n := .inl hln
  refine wpAny_Try_except ?_
  refine wpAny_mono ((hb (wKp X.K c i ts Wout D) (X.pn ++ pins) (fun e s₁ => wpAny (model X.prog X.w) X.A (noteFrame e X.env) (fun _ s₂ => wpAny (model X.prog X.w) X.A (setFlight e none) (fun _ s₃ =>
    wpAny (model X.prog X.w) X.A (handleBy e X.env [.ExceptHandler (some (.Name x np)) (some n) (b₀ :: suite) pos']) (SP X pins D) X.xe s₃) X.xe s₂) X.xe s₁) (fun u s' xx => ?_) PassesOwn.looking).run [] s σ H D (I.toTry _) h) (fun f s1 hsp => ?_) (fun e s1 he => he)
  · obtain ⟨a, B, sI, pins', σ', H', cls, d, rfl, J', nb, up, sky, na, os, ag, b, hb1, hyes, hno⟩ := xx
    have J : Inv X pins σ' H' sI := J'.ofTry ok
    have sky' : Sky B (X.env :: X.outer) a (Zc cls d) X.env.locals s'.heap := by rw [← hs]; exact sky
    show wpAny (model X.prog X.w) X.A (noteFrame (.ref a) X.env) _ _ _
    refine Sky.land Zc.steady hfr hf sky' fun h3 fl3 up3 => ?_
    have J3 : Inv X pins σ' H' { s' with heap := h3 } := J.landed nb fl3.1 (up.trans up3) os ag
    obtain ⟨oe3, vs3, he3, hz3, hd3⟩ := fl3.there
    have notFr : ∀ {h : Heap} {o : Obj} {vs : Array Value}, h.FunFrames B (X.env :: X.outer) → h.get? a = some o → o.data = .fields vs → a ∉ frs (X.env :: X.outer) := fun {h o vs} ff e dd hm => by
      obtain ⟨_, o', e', hnf⟩ := ff.mem hm
      rw [e] at e'; cases e'
      exact hnf _ dd
    have nfr := notFr fl3.2.2.1 he3 hd3
    have nL : a ≠ X.env.locals := fun z => nfr (List.mem_filterMap.mpr ⟨X.env, List.mem_cons_self, by rw [hf, z]⟩)
    have nF : a ∉ X.fs := fun hm => by
      obtain ⟨e, he, q⟩ := List.mem_filterMap.mp hm
      exact nfr (List.mem_filterMap.mpr ⟨e, List.mem_cons_of_mem _ he, q⟩)
    have nI : sI.heap.get? a = none := by
      cases q : sI.heap.get? a with
      | none => rfl
      | some o =>
        have z := nb a o q (by rw [hs]; exact nfr)
        rw [fl3.2.1] at z
        cases z
    have n0 : X.s_0.heap.get? a = none := by
      cases q : X.s_0.heap.get? a with
      | none => rfl
      | some o =>
        obtain ⟨o', z⟩ := J.base.there a o q (by rw [hex]; exact fun z => nomatch z)
        rw [nI] at z
        cases z
    have nP : ∀ p ∈ X.pn ++ pins, p.1 ≠ a := fun p hp z => by
      have q := (J.pin p hp).1
      rw [z, nI] at q
      cases q
    have nC : ∀ y c, X.env.cells.lookup y = some c → c ≠ a := fun y c e z => by
      obtain ⟨v, o, ho, _⟩ := J.cell y c e
      rw [z, nI] at ho
      cases ho
    have S3 := J3.suite he3 hd3 na nL nF
    refine wpAny_handleBy_cons (codeAny_handlers_test ?_) (by intro q; cases q)
    have LT : PySem.W.Looks (model X.prog X.w) h3 (typeOf (.ref a)) cls := fun A Q E s k q => wpAny_typeOf_ref (k _ _ he3) (by rw [hz3.1]; exact q)
    have LM := PySem.W.exm_one (M := model X.prog X.w) (J3.kIn) LT hb1
    have test : ∀ {Q : Value → Shared → Prop} {E : Value → Shared → Prop}, Q c { s' with heap := h3 } → wpAny (model X.prog X.w) (X.A.mark (some (.ref a))) (eval (.Name x np) X.env) Q E { s' with heap := h3 } := fun {Q E} q => by
      obtain ⟨hg, hdbg, hm | ⟨hm, hv, hnn⟩⟩ := hc
      · exact ld_glob (X := X.suite a ((a, oe3) :: (X.pn ++ pins))) S3 hg hm q hdbg
      · exact ld_blt (X := X.suite a ((a, oe3) :: (X.pn ++ pins))) S3 hg hm hv q hnn hdbg
    refine test (LM.here ?_)
    cases b with
    | true =>
      refine codeAny_handlers_suite_as ?_
      refine HandSPX.lands_againZ fl3 fun h4 fl4 up4 => ?_
      have J4 : Inv X pins σ' H' { s' with heap := h4 } := J.landed nb fl4.1 ((up.trans up3).trans up4) os ag
      obtain ⟨oe4, vs4, he4, hz4, hd4⟩ := fl4.there
      have S4 := J4.suite he4 hd4 na nL nF
      refine store_ok (X := X.suite a ((a, oe4) :: (X.pn ++ pins))) (v := .ref a) S4 hN hi hloc rfl (fun s5 S5 => ?_) (.inr hln)
      refine wpAny_mono ((hsu a oe4 cls d (X.pn ++ pins) hz4 ⟨_, hd4⟩).run [] s5 _ H' _ S5 (hyes rfl a na)) (fun f s6 hsp => ?_) (fun _ _ z => False.elim z)
      have end_ : ∀ {σ6 : St} {H6 : Hp} {Q : Shared → Prop}, Inv (X.suite a ((a, oe4) :: (X.pn ++ pins))) [] σ6 H6 s6 → (∀ s7, Inv X pins (σ6.set i none) H6 s7 → Q s7) →
          wpAny (model X.prog X.w) X.A (do bindName X.env n .none; unbindBehindTheSuite X.env n pos') (fun _ s7 => Q s7) X.xe s6 := fun {σ6 H6 Q} S6 hq => gone_ok (S6.unsuite ok) hN hi hln hq
      cases f with
      | next =>
        obtain ⟨σ6, H6, S6, q6⟩ := hsp
        obtain ⟨hp6, hn6, _⟩ := S6.pin (a, oe4) (List.mem_append_left _ List.mem_cons_self)
        exact gone_ok ((S6.unsuite ok).track hn6 n0 nL nC nP (exv_ok hp6 hz4 ⟨_, hd4⟩)) hN hi hln fun s7 J7 => ⟨_, _, J7, q6⟩
      | brk =>
        obtain ⟨σ6, H6, S6, q6⟩ := hsp
        exact end_ S6 fun s7 J7 => ⟨_, _, J7, q6⟩
      | cont =>
        obtain ⟨σ6, H6, S6, q6⟩ := hsp
        exact end_ S6 fun s7 J7 => ⟨_, _, J7, q6⟩
      | ret u =>
        obtain ⟨v6, σ6, H6, S6, r6, q6⟩ := hsp
        exact end_ S6 fun s7 J7 => ⟨_, _, _, J7, r6, q6⟩
    | false =>
      show wpAny _ X.A (handleBy (.ref a) X.env []) _ _ _
      refine wpAny_handleBy_nil ?_
      obtain ⟨k1, k2, k3, oe, vs, T, oT, ts', he, hz, hd, h1, hr⟩ := id fl3
      unfold PySem.passOn
      refine wpAny_bind (wpAny_field he hd h1 ?_)
      rw [if_neg (show ¬ ((Value.ref T == Value.none) = true) from by simp)]
      have fin : wpAny (model X.prog X.w) X.A (setFlight (.ref a) X.env.frame) (fun _ s4 => wpAny (model X.prog X.w) X.A (throw (.ref a) : Sem Flow) (SP X pins D) X.xe s4) X.xe { s' with heap := h3 } := by
        rw [hf]
        refine HandSPX.setFlight_upZ fl3 fun h4 hh4 up4 => wpAny_throw (tk _ _ ?_)
        exact ⟨a, B, sI, pins, σ', H', cls, d, rfl, J, nb, (up.trans up3).trans up4, .inr (.inr (by rw [hs]; exact hh4)), na, os, ag, hno rfl⟩
      first
        | exact wpAny_bind (wpAny_pure (wpAny_bind fin))
        | exact wpAny_bind fin
  · cases f with
    | next =>
      obtain ⟨σ', H', J, q⟩ := hsp
      exact wpAny_execs_nil ⟨σ', H', J.ofTry ok, q⟩
    | brk =>
      obtain ⟨σ', H', J, q⟩ := hsp
      exact ⟨σ', H', J.ofTry ok, q⟩
    | cont =>
      obtain ⟨σ', H', J, q⟩ := hsp
      exact ⟨σ', H', J.ofTry ok, q⟩
    | ret u =>
      obtain ⟨v, σ', H', J, r, q⟩ := hsp
      exact ⟨v, σ', H', J.ofTry ok, r, q⟩
/-- what the class of a kept exception says: its fields are read, isinstance asks it -/
structure KeC (K : PySem.W.Frag) (C : Addr) : Prop where
  f : XfC K C
  i : ExcC K C
  c : (PySem.W.clsIn K C).isSome = true
/-- e.f, e a kept exception -/
def tXk (K : PySem.W.Frag) (f : Str) (te : TE) : TE := fun σ H Q => te σ H fun x H1 => ∃ (a C dd : Addr) (fs : List (Str × V)) (v : V), x = .ref a ∧ KeC K C ∧ PySem.W.findIn K (.ref C) f = some none ∧ H1 a = some (exv a (.ref C) (some dd)) ∧ H1 dd = some (.xd fs) ∧ fs.lookup f = some v ∧ Q v H1
theorem exv_inst {P : Program} {w : World} {H : Hp} {h : Heap} {a C dd : Addr} {fs : List (Str × V)} (hok : HOk P w H h) (e : H a = some (exv a (.ref C) (some dd))) (ed : H dd = some (.xd fs)) :
    ∃ (oe od : Obj) (mA : Str → Option Value), PySem.W.InstAt h a oe C (some od) ∧ (∀ f, PySem.W.lookIn f od = some (mA f)) ∧ ∀ f, RelO (fs.lookup f) (mA f) := by
  have x : ObjOk P w H h a (.ext fun h => ∃ (oe : Obj) (vs : Array Value), h.get? a = some oe ∧ Zc (.ref C) (some dd) oe ∧ oe.data = .fields vs) := hok a _ e
  obtain ⟨⟨oe, vs, he, hz, hd⟩, _⟩ := x
  have y : ObjOk P w H h dd (.xd fs) := hok dd _ ed
  obtain ⟨mA, hns, hr⟩ := y
  obtain ⟨od, ho, hl⟩ := lookIn_ns hns
  exact ⟨oe, od, mA, ⟨he, hz.1, by unfold PySem.W.notCls; rw [hd] <;> rfl, by rw [hz.2]; exact ho⟩, hl, hr⟩
theorem pe_xk {e : Expr} {te : TE} {pos : Pos} {f : Str} (he : PE X e te) (hb : attributeBase e f X.env (eval e X.env) = eval e X.env := by rfl) : PE X (.Attribute e f pos) (tXk X.K f te) := by
  refine ⟨fun pins s σ H Q I h => ?_⟩
  refine attr_of hb (thn (he.run pins s σ H _ I h) fun u s1 hh => ?_)
  obtain ⟨x, H1, I1, rx, a, C, dd, fs, v, ex, T, hno, ea, ed, l, q⟩ := hh
  subst ex
  obtain rfl : u = Value.ref a := rx
  obtain ⟨oe, od, mA, J, hl, hr⟩ := exv_inst I1.hok ea ed
  obtain ⟨u, hu, ru⟩ := RelO.some_of (v := v) (o := mA f) (by rw [← l]; exact hr f)
  exact HandSPX.exc_get I1.kIn J T.f.ga T.f.gg T.f.exC (PySem.W.findObj_own T.f.hdC hno rfl (by rw [hl, hu])) (handed_of ru) ⟨v, H1, I1.tok _, ru, q⟩
/-- isinstance(e, c), e a kept exception -/
def rIsK (K : PySem.W.Frag) : List V → Hp → VK → Prop := fun xs H Q => ∃ (a C dd : Addr) (fs : List (Str × V)) (c : V) (cv : Value) (b : Bool), xs = [.ref a, c] ∧ KeC K C ∧ H a = some (exv a (.ref C) (some dd)) ∧ H dd = some (.xd fs) ∧ (∀ u, RelV c u → u = cv) ∧ PySem.W.kitOne K (.ref C) cv = some b ∧ Q (.bl b) H
theorem call_isK : CallR X (.builtin "isinstance") (rIsK X.K) := by
  intro pins s σ H xs us Q I r h
  obtain ⟨a, C, dd, fs, c, cv, b, rfl, T, ea, ed, hcv, e, q⟩ := h
  cases r with
  | cons rx rr =>
    cases rr with
    | cons rt rr =>
      cases rr
      cases rx
      have ec := hcv _ rt
      subst ec
      obtain ⟨oe, od, mA, J, _, _⟩ := exv_inst I.hok ea ed
      exact PySem.W.kia_one (PySem.W.kitx_exc T.c T.i.hg T.i.hk T.i.hs T.i.ha T.i.hn T.i.ht T.i.hm) I.kIn J e (fun z => nomatch z) fun tk => ⟨.bl b, H, I.kept (t' := tk) fun _ _ z => z, rfl, q⟩
end
end L2
/-! DL: a data layer over the hand layer. Values as plain data; lists that are changed in place as owned cells. -/
namespace DL
open PySem PySem.Spec PyProof.Rows L2

abbrev D := PyData
/-- owned cells: what stands in each (none: given up) -/
abbrev Cs := List (Option (List D))
/-- what an expression gives: data, an owned cell, a fresh list, a caught exception (its class's name, its value) -/
inductive Rv where
  | dat (d : D)
  | own (k : Nat)
  | fr (c : List D)
  | exn (nm : Str) (d : D)
/-- slots: none is no value -/
abbrev Rho := List (Option Rv)

def kD : Key → D
  | .inl i => .int i
  | .inr x => .str x

/-- a list: tracked, or one of the module's own objects -/
def LstAt (K : PySem.W.Frag) (H : Hp) (a : Addr) (xs : List V) : Prop := Rd H a (.lst xs) ∨ ∃ (its : List Value) (n : Nat), K.lookup a = some { cls := .type "list", data := .seq its.toArray n } ∧ xs.length ≤ sizeLine ∧ Vals xs its
theorem LstAt.sq {K : PySem.W.Frag} {H : Hp} {a : Addr} {xs : List V} (h : LstAt K H a xs) : SqL K H a xs := by
  rcases h with h | ⟨its, n, h1, h2, h3⟩
  · exact .inl h
  · exact .inr ⟨_, its.toArray, n, h1, rfl, rfl, rfl, by rw [List.size_toArray, ← h3.length]; exact h2, by simpa using h3⟩
/-- the module's def nm, as a value -/
def fnD (nm : Str) : D := .dict [(.none, .str nm)]
def isFn : List (D × D) → Bool
  | [(.none, .str _)] => true
  | _ => false
def FnAt (K : PySem.W.Frag) (nm : Str) (f : Addr) : Prop := PySem.W.nsIn K mainGlobals nm = some (some (.ref f)) ∧ PySem.W.typeIn K (.ref f) = some (.type "function")
mutual
inductive Rp (K : PySem.W.Frag) (H : Hp) : V → D → Prop
  | non : Rp K H .non .none
  | bl (b : Bool) : Rp K H (.bl b) (.bool b)
  | int (i : Int) : Rp K H (.int i) (.int i)
  | str (x : Str) (h : x.length ≤ sizeLine) : Rp K H (.str x) (.str x)
  | lst {a : Addr} {xs : List V} {ds : List D} : LstAt K H a xs → RpAll K H xs ds → Rp K H (.ref a) (.list ds)
  | tup {a : Addr} {xs : List V} {ds : List D} : SqT K H a xs → RpAll K H xs ds → Rp K H (.ref a) (.tuple ds)
  | dct {a : Addr} {o : Obj} {kvs : List (Key × V)} {ds : List (D × D)} : H a = some (.frz o (.dK kvs)) → kvs.map (fun p => kD p.1) = ds.map (·.1) → RpAll K H (kvs.map (·.2)) (ds.map (·.2)) → Rp K H (.ref a) (.dict ds)
  | fn {f : Addr} {nm : Str} : FnAt K nm f → Rp K H (.ref f) (.dict [(.none, .str nm)])
inductive RpAll (K : PySem.W.Frag) (H : Hp) : List V → List D → Prop
  | nil : RpAll K H [] []
  | cons {v : V} {vs : List V} {d : D} {ds : List D} : Rp K H v d → RpAll K H vs ds → RpAll K H (v :: vs) (d :: ds)
end

section
variable {K : PySem.W.Frag} {H H' : Hp}
theorem rd_mono (h : ∀ a o, H a = some o → H' a = some o) {a : Addr} {u : HO} (q : Rd H a u) : Rd H' a u := by
  rcases q with q | ⟨o, q⟩
  · exact .inl (h _ _ q)
  · exact .inr ⟨o, h _ _ q⟩
theorem sqT_mono (h : ∀ a o, H a = some o → H' a = some o) {a : Addr} {xs : List V} (q : SqT K H a xs) : SqT K H' a xs := q.imp (rd_mono h) id
theorem LstAt.mono (h : ∀ a o, H a = some o → H' a = some o) {a : Addr} {xs : List V} (q : LstAt K H a xs) : LstAt K H' a xs := q.imp (rd_mono h) id
mutual
theorem Rp.mono (h : ∀ a o, H a = some o → H' a = some o) : ∀ {v : V} {d : D}, Rp K H v d → Rp K H' v d
  | _, _, .non => .non
  | _, _, .bl b => .bl b
  | _, _, .int i => .int i
  | _, _, .str x q => .str x q
  | _, _, .lst q r => .lst (q.mono h) (RpAll.mono h r)
  | _, _, .tup q r => .tup (sqT_mono h q) (RpAll.mono h r)
  | _, _, .dct q e r => .dct (h _ _ q) e (RpAll.mono h r)
  | _, _, .fn q => .fn q
theorem RpAll.mono (h : ∀ a o, H a = some o → H' a = some o) : ∀ {vs : List V} {ds : List D}, RpAll K H vs ds → RpAll K H' vs ds
  | _, _, .nil => .nil
  | _, _, .cons a r => .cons (Rp.mono h a) (RpAll.mono h r)
end
theorem RpAll.length : ∀ {vs : List V} {ds : List D}, RpAll K H vs ds → vs.length = ds.length
  | _, _, .nil => rfl
  | _, _, .cons _ r => by rw [List.length_cons, List.length_cons, r.length]
theorem RpAll.get : ∀ {vs : List V} {ds : List D} {i : Nat} {d : D}, RpAll K H vs ds → ds[i]? = some d → ∃ v, vs[i]? = some v ∧ Rp K H v d
  | _, _, _, _, .nil, e => by simp at e
  | _, _, 0, _, .cons a _, e => by simp at e; subst e; exact ⟨_, rfl, a⟩
  | _, _, i + 1, d, .cons _ r, e => by
    obtain ⟨v, h1, h2⟩ := RpAll.get (i := i) (d := d) r (by simpa using e)
    exact ⟨v, by simpa using h1, h2⟩
theorem RpAll.get' : ∀ {vs : List V} {ds : List D} {i : Nat} {v : V}, RpAll K H vs ds → vs[i]? = some v → ∃ d, ds[i]? = some d ∧ Rp K H v d
  | _, _, _, _, .nil, e => by simp at e
  | _, _, 0, _, .cons a _, e => by simp at e; subst e; exact ⟨_, rfl, a⟩
  | _, _, i + 1, d, .cons _ r, e => by
    obtain ⟨v, h1, h2⟩ := RpAll.get' (i := i) (v := d) r (by simpa using e)
    exact ⟨v, by simpa using h1, h2⟩
theorem RpAll.append : ∀ {vs ws : List V} {ds es : List D}, RpAll K H vs ds → RpAll K H ws es → RpAll K H (vs ++ ws) (ds ++ es)
  | _, _, _, _, .nil, s => s
  | _, _, _, _, .cons a r, s => .cons a (RpAll.append r s)
theorem RpAll.take : ∀ {vs : List V} {ds : List D} (n : Nat), RpAll K H vs ds → RpAll K H (vs.take n) (ds.take n)
  | _, _, 0, _ => .nil
  | _, _, _ + 1, .nil => .nil
  | _, _, n + 1, .cons a r => .cons a (RpAll.take n r)
theorem RpAll.drop : ∀ {vs : List V} {ds : List D} (n : Nat), RpAll K H vs ds → RpAll K H (vs.drop n) (ds.drop n)
  | _, _, 0, r => r
  | _, _, _ + 1, .nil => .nil
  | _, _, n + 1, .cons _ r => RpAll.drop n r
theorem RpAll.set {x : V} {d : D} (a : Rp K H x d) : ∀ {vs : List V} {ds : List D} (i : Nat), RpAll K H vs ds → RpAll K H (vs.set i x) (ds.set i d)
  | _, _, _, .nil => .nil
  | _, _, 0, .cons _ r => .cons a r
  | _, _, i + 1, .cons b r => .cons b (RpAll.set a i r)
theorem RpAll.reverse : ∀ {vs : List V} {ds : List D}, RpAll K H vs ds → RpAll K H vs.reverse ds.reverse
  | _, _, .nil => .nil
  | _, _, .cons a r => by rw [List.reverse_cons, List.reverse_cons]; exact (RpAll.reverse r).append (.cons a .nil)
end

/-! ### the cells, the data's heap -/
def live (O : List (Option Addr)) : List Addr := O.filterMap id
theorem mem_live {O : List (Option Addr)} {a : Addr} : a ∈ live O ↔ ∃ i : Nat, O[i]? = some (some a) := by
  unfold live
  rw [List.mem_filterMap]
  constructor
  · rintro ⟨x, hx, e⟩
    have e' : x = some a := e
    subst e'
    exact List.mem_iff_getElem?.mp hx
  · rintro ⟨i, e⟩
    exact ⟨some a, List.mem_of_getElem? e, rfl⟩
/-- the heap of the data: without the owned cells -/
def hd (O : List (Option Addr)) (H : Hp) : Hp := fun a => if a ∈ live O then none else H a
theorem hd_some {O : List (Option Addr)} {H : Hp} {a : Addr} {o : HO} (h : hd O H a = some o) : a ∉ live O ∧ H a = some o := by
  unfold hd at h
  split at h
  · cases h
  · rename_i n
    exact ⟨n, h⟩
theorem hd_of {O : List (Option Addr)} {H : Hp} {a : Addr} {o : HO} (n : a ∉ live O) (h : H a = some o) : hd O H a = some o := by
  unfold hd
  rw [if_neg n]
  exact h
/-- what is not an owned cell stays -/
def Ch (O : List (Option Addr)) (H H' : Hp) : Prop := ∀ a o, a ∉ live O → H a = some o → H' a = some o
theorem Ch.refl {O : List (Option Addr)} {H : Hp} : Ch O H H := fun _ _ _ h => h
theorem Ch.trans {O : List (Option Addr)} {H H1 H2 : Hp} (a : Ch O H H1) (b : Ch O H1 H2) : Ch O H H2 := fun x o n h => b x o n (a x o n h)
theorem Ch.data {O : List (Option Addr)} {H H' : Hp} (c : Ch O H H') : ∀ a o, hd O H a = some o → hd O H' a = some o := fun a o h => by
  obtain ⟨n, e⟩ := hd_some h
  exact hd_of n (c a o n e)
structure Wd (K : PySem.W.Frag) (O : List (Option Addr)) (cs : Cs) (H : Hp) : Prop where
  len : cs.length = O.length
  inj : ∀ (i j : Nat) (a : Addr), O[i]? = some (some a) → O[j]? = some (some a) → i = j
  cell : ∀ (i : Nat) (a : Addr), O[i]? = some (some a) → ∃ c vs, cs[i]? = some (some c) ∧ H a = some (.lst vs) ∧ RpAll K (hd O H) vs c
  ded : ∀ (i : Nat), O[i]? = some none → cs[i]? = some none
theorem Wd.of {K : PySem.W.Frag} {O : List (Option Addr)} {cs : Cs} {H : Hp} (w : Wd K O cs H) {i : Nat} {c : List D} (h : cs[i]? = some (some c)) : ∃ a vs, O[i]? = some (some a) ∧ H a = some (.lst vs) ∧ RpAll K (hd O H) vs c := by
  obtain ⟨hi, e⟩ := List.getElem?_eq_some_iff.mp h
  have hi' : i < O.length := by rw [← w.len]; exact hi
  cases q : O[i] with
  | none =>
    have := w.ded i (by rw [List.getElem?_eq_getElem hi', q])
    rw [h] at this; cases this
  | some a =>
    have q' : O[i]? = some (some a) := by rw [List.getElem?_eq_getElem hi', q]
    obtain ⟨c', vs, h1, h2, h3⟩ := w.cell i a q'
    rw [h] at h1; cases h1
    exact ⟨a, vs, q', h2, h3⟩
theorem Wd.some_live {K : PySem.W.Frag} {O : List (Option Addr)} {cs : Cs} {H : Hp} (w : Wd K O cs H) {a : Addr} (h : a ∈ live O) : ∃ o, H a = some o := by
  obtain ⟨i, e⟩ := mem_live.mp h
  obtain ⟨c, vs, _, h2, _⟩ := w.cell i a e
  exact ⟨_, h2⟩
theorem Wd.fresh {K : PySem.W.Frag} {O : List (Option Addr)} {cs : Cs} {H : Hp} (w : Wd K O cs H) {a : Addr} (h : H a = none) : a ∉ live O := fun z => by
  obtain ⟨o, e⟩ := w.some_live z
  rw [h] at e; cases e
/-- what is new behind is new ahead -/
theorem Wd.new_of {K : PySem.W.Frag} {O : List (Option Addr)} {cs cs' : Cs} {H H' : Hp} (w : Wd K O cs H) (w' : Wd K O cs' H') (c : Ch O H H') {p : Addr} (h : H' p = none) : H p = none := by
  cases q : H p with
  | none => rfl
  | some o =>
    have := c p o (w'.fresh h) q
    rw [h] at this; cases this

/-- the classes of the module, by name -/
def CLs (K : PySem.W.Frag) : List (Str × Addr) := K.filterMap fun p => match p.2.data with
  | .cls cd => some (cd.name, p.1)
  | _ => none
/-- the name nm, or that of the class above all of the package's -/
def subN (nm nm' : Str) : Bool := nm == nm' || nm' == ("SameError" : Str)
/-- what is known of the class at C, nm its name -/
structure Card (K : PySem.W.Frag) (nm : Str) (C : Addr) : Prop where
  ke : KeC K C
  nov : PySem.W.findIn K (.ref C) "value" = some none
  sub : ∀ q ∈ CLs K, PySem.W.kitOne K (.ref C) (.ref q.2) = some (subN nm q.1)
  exm : ∀ q ∈ CLs K, PySem.W.subIn K (.ref q.2) (.type "BaseException") = some true → PySem.W.exmOne K (.ref C) (.ref q.2) = some (subN nm q.1)
/-- a caught exception: its class's name, its value -/
def ExAt (K : PySem.W.Frag) (H : Hp) (nm : Str) (d : D) (v : V) : Prop := ∃ (a C dd : Addr) (y : V), v = .ref a ∧ Card K nm C ∧ H a = some (exv a (.ref C) (some dd)) ∧ H dd = some (.xd [(("value" : Str), y)]) ∧ Rp K H y d
theorem ExAt.mono {K : PySem.W.Frag} {H H' : Hp} (h : ∀ a o, H a = some o → H' a = some o) {nm : Str} {d : D} {v : V} (q : ExAt K H nm d v) : ExAt K H' nm d v :=
  let ⟨a, C, dd, y, e, k, h1, h2, r⟩ := q
  ⟨a, C, dd, y, e, k, h _ _ h1, h _ _ h2, r.mono h⟩
/-- a value as an Rv, behind H (from H on) -/
def RvR (K : PySem.W.Frag) (O : List (Option Addr)) (H : Hp) (cs' : Cs) (r : Rv) (v : V) (H' : Hp) : Prop :=
  match r with
  | .dat d => Rp K (hd O H') v d
  | .own k => ∃ a, v = .ref a ∧ O[k]? = some (some a)
  | .fr c => ∃ p, v = .ref p ∧ H p = none ∧ Wd K (O ++ [some p]) (cs' ++ [some c]) H'
  | .exn nm d => ExAt K (hd O H') nm d v
/-- as it stays: no fresh one -/
def ArR (K : PySem.W.Frag) (O : List (Option Addr)) (r : Rv) (v : V) (H : Hp) : Prop :=
  match r with
  | .dat d => Rp K (hd O H) v d
  | .own k => ∃ a, v = .ref a ∧ O[k]? = some (some a)
  | .fr _ => False
  | .exn nm d => ExAt K (hd O H) nm d v
def deg : Rv → Rv
  | .fr c => .dat (.list c)
  | r => r
theorem hd_app {O : List (Option Addr)} {p : Addr} {H : Hp} : ∀ a o, hd (O ++ [some p]) H a = some o → hd O H a = some o := fun a o h => by
  obtain ⟨n, e⟩ := hd_some h
  refine hd_of (fun z => n ?_) e
  obtain ⟨i, q⟩ := mem_live.mp z
  refine mem_live.mpr ⟨i, ?_⟩
  rw [List.getElem?_append_left (List.getElem?_eq_some_iff.mp q).1]
  exact q
theorem Wd.pop {K : PySem.W.Frag} {O : List (Option Addr)} {p : Addr} {cs : Cs} {c : List D} {H : Hp} (w : Wd K (O ++ [some p]) (cs ++ [some c]) H) : Wd K O cs H ∧ Rp K (hd O H) (.ref p) (.list c) ∧ p ∉ live O := by
  have hl : cs.length = O.length := by have := w.len; simpa using this
  have up : ∀ {i : Nat} {x : Option Addr}, O[i]? = some x → (O ++ [some p])[i]? = some x := fun {i x} q => by
    rw [List.getElem?_append_left (List.getElem?_eq_some_iff.mp q).1]; exact q
  have last : (O ++ [some p])[O.length]? = some (some p) := by simp
  have np : p ∉ live O := fun z => by
    obtain ⟨i, q⟩ := mem_live.mp z
    have := w.inj i O.length p (up q) last
    have h2 := (List.getElem?_eq_some_iff.mp q).1
    omega
  refine ⟨⟨hl, fun i j a h1 h2 => w.inj i j a (up h1) (up h2), fun i a h => ?_, fun i h => ?_⟩, ?_, np⟩
  · obtain ⟨c', vs, h1, h2, h3⟩ := w.cell i a (up h)
    rw [List.getElem?_append_left (by rw [hl]; exact (List.getElem?_eq_some_iff.mp h).1)] at h1
    exact ⟨c', vs, h1, h2, h3.mono hd_app⟩
  · have h1 := w.ded i (up h)
    rw [List.getElem?_append_left (by rw [hl]; exact (List.getElem?_eq_some_iff.mp h).1)] at h1
    exact h1
  · obtain ⟨c', vs, h1, h2, h3⟩ := w.cell O.length p last
    rw [← hl] at h1
    simp at h1
    subst h1
    exact .lst (.inl (.inl (hd_of np h2))) (h3.mono hd_app)
theorem RvR.deg {K : PySem.W.Frag} {O : List (Option Addr)} {H H' : Hp} {cs' : Cs} {r : Rv} {v : V} (h : RvR K O H cs' r v H') : ArR K O (deg r) v H' := by
  cases r with
  | dat d => exact h
  | own k => exact h
  | fr c =>
    obtain ⟨p, rfl, _, w⟩ := h
    exact w.pop.2.1
  | exn nm d => exact h
theorem ArR.ch {K : PySem.W.Frag} {O : List (Option Addr)} {H H' : Hp} {r : Rv} {v : V} (c : Ch O H H') (h : ArR K O r v H) : ArR K O r v H' := by
  cases r with
  | dat d => exact Rp.mono c.data h
  | own k => exact h
  | fr c => exact h
  | exn nm d => exact ExAt.mono c.data h
/-- an owned cell's content, or data -/
def rd (r : Rv) (cs : Cs) : Option D :=
  match r with
  | .dat d => some d
  | .own k => match cs[k]? with
    | some (some c) => some (.list c)
    | _ => none
  | .fr c => some (.list c)
  | .exn _ _ => none
/-- as it is read: the list itself may be an owned cell, what it holds is data -/
def Sh (K : PySem.W.Frag) (O : List (Option Addr)) (H : Hp) (v : V) (d : D) : Prop := Rp K (hd O H) v d ∨ ∃ a vs ds, v = .ref a ∧ d = .list ds ∧ H a = some (.lst vs) ∧ RpAll K (hd O H) vs ds
theorem ArR.sh {K : PySem.W.Frag} {O : List (Option Addr)} {H : Hp} {cs : Cs} {r : Rv} {v : V} {d : D} (w : Wd K O cs H) (h : ArR K O r v H) (e : rd r cs = some d) : Sh K O H v d := by
  cases r with
  | dat d' =>
    cases e
    exact .inl h
  | own k =>
    obtain ⟨a, rfl, q⟩ := h
    obtain ⟨c, vs, h1, h2, h3⟩ := w.cell k a q
    unfold rd at e
    simp only [h1] at e
    cases e
    exact .inr ⟨a, vs, c, rfl, rfl, h2, h3⟩
  | fr c => exact h.elim
  | exn nm d => cases e
theorem hd_le {O : List (Option Addr)} {H : Hp} : ∀ a o, hd O H a = some o → H a = some o := fun a o h => (hd_some h).2
theorem Sh.rp {K : PySem.W.Frag} {O : List (Option Addr)} {H : Hp} {v : V} {d : D} (h : Sh K O H v d) : Rp K H v d := by
  rcases h with h | ⟨a, vs, ds, rfl, rfl, h1, h2⟩
  · exact h.mono hd_le
  · exact .lst (.inl (.inl h1)) (h2.mono hd_le)
/-- items of what is read are data -/
theorem Sh.list {K : PySem.W.Frag} {O : List (Option Addr)} {H : Hp} {v : V} {ds : List D} (h : Sh K O H v (.list ds)) : ∃ a vs, v = .ref a ∧ LstAt K H a vs ∧ RpAll K (hd O H) vs ds := by
  rcases h with h | ⟨a, vs, ds', rfl, e, h1, h2⟩
  · cases h with
    | lst q r => exact ⟨_, _, rfl, q.mono hd_le, r⟩
  · cases e
    exact ⟨a, vs, rfl, .inl (.inl h1), h2⟩
theorem Sh.tuple {K : PySem.W.Frag} {O : List (Option Addr)} {H : Hp} {v : V} {ds : List D} (h : Sh K O H v (.tuple ds)) : ∃ a vs, v = .ref a ∧ SqT K H a vs ∧ RpAll K (hd O H) vs ds := by
  rcases h with h | ⟨a, vs, ds', rfl, e, h1, h2⟩
  · cases h with
    | tup q r => exact ⟨_, _, rfl, sqT_mono hd_le q, r⟩
  · cases e
theorem Sh.int {K : PySem.W.Frag} {O : List (Option Addr)} {H : Hp} {v : V} {i : Int} (h : Sh K O H v (.int i)) : v = .int i := by
  rcases h with h | ⟨a, vs, ds', rfl, e, h1, h2⟩
  · cases h; rfl
  · cases e
theorem Sh.bool {K : PySem.W.Frag} {O : List (Option Addr)} {H : Hp} {v : V} {i : Bool} (h : Sh K O H v (.bool i)) : v = .bl i := by
  rcases h with h | ⟨a, vs, ds', rfl, e, h1, h2⟩
  · cases h; rfl
  · cases e
theorem Sh.none {K : PySem.W.Frag} {O : List (Option Addr)} {H : Hp} {v : V} (h : Sh K O H v .none) : v = .non := by
  rcases h with h | ⟨a, vs, ds', rfl, e, h1, h2⟩
  · cases h; rfl
  · cases e
theorem Sh.str {K : PySem.W.Frag} {O : List (Option Addr)} {H : Hp} {v : V} {x : Str} (h : Sh K O H v (.str x)) : v = .str x ∧ x.length ≤ sizeLine := by
  rcases h with h | ⟨a, vs, ds', rfl, e, h1, h2⟩
  · cases h with
    | str _ q => exact ⟨rfl, q⟩
  · cases e
theorem Sh.dict {K : PySem.W.Frag} {O : List (Option Addr)} {H : Hp} {v : V} {ds : List (D × D)} (h : Sh K O H v (.dict ds)) (hf : isFn ds = false) : ∃ a kvs, v = .ref a ∧ Rd H a (.dK kvs) ∧ kvs.map (fun p => kD p.1) = ds.map (·.1) ∧ RpAll K (hd O H) (kvs.map (·.2)) (ds.map (·.2)) := by
  rcases h with h | ⟨a, vs, ds', rfl, e, h1, h2⟩
  · cases h with
    | dct q e r =>
      exact ⟨_, _, rfl, .inr ⟨_, hd_le _ _ q⟩, e, r⟩
    | fn q => cases hf
  · cases e
/-- the environment -/
structure EnvOk (K : PySem.W.Frag) (O : List (Option Addr)) (H : Hp) (ρ : Rho) (σ : L2.St) : Prop where
  len : ρ.length = σ.length
  slot : ∀ (i : Nat) (r : Rv), ρ[i]? = some (some r) → ∃ v, σ[i]? = some (some v) ∧ ArR K O r v H
theorem EnvOk.ch {K : PySem.W.Frag} {O : List (Option Addr)} {H H' : Hp} {ρ : Rho} {σ : L2.St} (e : EnvOk K O H ρ σ) (c : Ch O H H') : EnvOk K O H' ρ σ :=
  ⟨e.len, fun i r h => let ⟨v, h1, h2⟩ := e.slot i r h; ⟨v, h1, h2.ch c⟩⟩
theorem EnvOk.set {K : PySem.W.Frag} {O : List (Option Addr)} {H : Hp} {ρ : Rho} {σ : L2.St} (e : EnvOk K O H ρ σ) (i : Nat) {r : Rv} {v : V} (h : ArR K O r v H) : EnvOk K O H (ρ.set i (some r)) (σ.set i (some v)) := by
  refine ⟨by simp [e.len], fun j r' hj => ?_⟩
  by_cases q : i = j
  · subst q
    have hi : i < ρ.length := by
      have := (List.getElem?_eq_some_iff.mp hj).1
      simpa using this
    rw [List.getElem?_set_self hi] at hj
    cases hj
    exact ⟨v, by rw [List.getElem?_set_self (by rw [← e.len]; exact hi)], h⟩
  · rw [List.getElem?_set_ne q] at hj
    obtain ⟨w, h1, h2⟩ := e.slot j r' hj
    exact ⟨w, by rw [List.getElem?_set_ne q]; exact h1, h2⟩

/-! ### new objects -/
section
variable {K : PySem.W.Frag} {O : List (Option Addr)} {cs : Cs} {H : Hp}
theorem ch_new {p : Addr} {o : HO} (hp : H p = none) : Ch O H (upd H p o) := fun a u _ h => by
  rw [upd_ne (ne_of_none h hp)]; exact h
theorem Wd.new (w : Wd K O cs H) {p : Addr} {o : HO} (hp : H p = none) : Wd K O cs (upd H p o) := by
  refine ⟨w.len, w.inj, fun i a h => ?_, w.ded⟩
  obtain ⟨c, vs, h1, h2, h3⟩ := w.cell i a h
  exact ⟨c, vs, h1, by rw [upd_ne (ne_of_none h2 hp)]; exact h2, h3.mono (ch_new hp).data⟩
theorem Wd.newList (w : Wd K O cs H) {p : Addr} {vs : List V} {c : List D} (hp : H p = none) (r : RpAll K (hd O H) vs c) : Wd K (O ++ [some p]) (cs ++ [some c]) (upd H p (.lst vs)) := by
  have np := w.fresh hp
  have sub : ∀ a o, hd O H a = some o → hd (O ++ [some p]) (upd H p (.lst vs)) a = some o := fun a o h => by
    obtain ⟨n, e⟩ := hd_some h
    have ne : a ≠ p := ne_of_none e hp
    refine hd_of (fun z => ?_) (by rw [upd_ne ne]; exact e)
    obtain ⟨i, q⟩ := mem_live.mp z
    by_cases hi : i < O.length
    · rw [List.getElem?_append_left hi] at q
      exact n (mem_live.mpr ⟨i, q⟩)
    · rw [List.getElem?_append_right (by omega)] at q
      have : i - O.length = 0 := by
        have := (List.getElem?_eq_some_iff.mp q).1
        simp at this; omega
      rw [this] at q
      simp at q
      exact ne q.symm
  have split : ∀ {i : Nat} {x : Option Addr}, (O ++ [some p])[i]? = some x → (i < O.length ∧ O[i]? = some x) ∨ (i = O.length ∧ x = some p) := fun {i x} q => by
    by_cases hi : i < O.length
    · rw [List.getElem?_append_left hi] at q
      exact .inl ⟨hi, q⟩
    · rw [List.getElem?_append_right (by omega)] at q
      have h0 : i - O.length = 0 := by
        have := (List.getElem?_eq_some_iff.mp q).1
        simp at this; omega
      rw [h0] at q
      simp at q
      exact .inr ⟨by omega, q.symm⟩
  refine ⟨by simp [w.len], fun i j a h1 h2 => ?_, fun i a h => ?_, fun i h => ?_⟩
  · rcases split h1 with ⟨l1, q1⟩ | ⟨e1, q1⟩ <;> rcases split h2 with ⟨l2, q2⟩ | ⟨e2, q2⟩
    · exact w.inj i j a q1 q2
    · cases q2; exact absurd (mem_live.mpr ⟨i, q1⟩) np
    · cases q1; exact absurd (mem_live.mpr ⟨j, q2⟩) np
    · omega
  · rcases split h with ⟨l1, q1⟩ | ⟨e1, q1⟩
    · obtain ⟨c', vs', h1, h2, h3⟩ := w.cell i a q1
      refine ⟨c', vs', ?_, by rw [upd_ne (ne_of_none h2 hp)]; exact h2, h3.mono sub⟩
      rw [List.getElem?_append_left (by rw [w.len]; exact l1)]; exact h1
    · cases q1
      refine ⟨c, vs, ?_, upd_same, r.mono sub⟩
      rw [e1, ← w.len]; simp
  · rcases split h with ⟨l1, q1⟩ | ⟨e1, q1⟩
    · rw [List.getElem?_append_left (by rw [w.len]; exact l1)]; exact w.ded i q1
    · cases q1
end
/-- what an expression wants behind -/
def PostX (K : PySem.W.Frag) (O : List (Option Addr)) (H : Hp) (r : Rv) (cs' : Cs) (Q : VK) : Prop := ∀ v H', Ch O H H' → Wd K O cs' H' → RvR K O H cs' r v H' → Q v H'
section
variable {K : PySem.W.Frag} {O : List (Option Addr)} {cs : Cs} {H : Hp} {Q : VK}
theorem post_list {vs : List V} {c : List D} (w : Wd K O cs H) (r : RpAll K (hd O H) vs c) (h : PostX K O H (.fr c) cs Q) : ∀ p, H p = none → Q (.ref p) (upd H p (.lst vs)) := fun p hp =>
  h _ _ (ch_new hp) (w.new hp) ⟨p, rfl, hp, w.newList hp r⟩
theorem post_tup {vs : List V} {c : List D} (w : Wd K O cs H) (r : RpAll K (hd O H) vs c) (h : PostX K O H (.dat (.tuple c)) cs Q) : ∀ p, H p = none → Q (.ref p) (upd H p (.tup vs)) := fun p hp =>
  h _ _ (ch_new hp) (w.new hp) (.tup (.inl (.inl (hd_of (w.fresh hp) upd_same))) (r.mono (ch_new hp).data))
theorem post_val {v : V} {d : D} (w : Wd K O cs H) (r : Rp K (hd O H) v d) (h : PostX K O H (.dat d) cs Q) : Q v H := h _ _ .refl w r
theorem post_int {i : Int} (w : Wd K O cs H) (h : PostX K O H (.dat (.int i)) cs Q) : Q (.int i) H := post_val w (.int i) h
theorem post_bool {b : Bool} (w : Wd K O cs H) (h : PostX K O H (.dat (.bool b)) cs Q) : Q (.bl b) H := post_val w (.bl b) h
theorem post_str {x : Str} (w : Wd K O cs H) (hz : x.length ≤ sizeLine) (h : PostX K O H (.dat (.str x)) cs Q) : Q (.str x) H := post_val w (.str x hz) h
end
end DL
namespace DL
open PySem PySem.Spec PyProof.Rows L2

/-! ### data as the library reads it -/
section
variable {X : Cx} {pins : List (Addr × Obj)} {σ : L2.St} {H : Hp} {s : Shared}
theorem keys_reads {h : Heap} : ∀ {kvs : List (Key × V)} {ds : List D} {us : List Value}, kvs.map (fun p => kD p.1) = ds → (∀ (i : Nat) (k : Key) (v : V), kvs[i]? = some (k, v) → ∃ u, us[i]? = some u ∧ keyIs k u = true) → us.length = kvs.length → ∃ as, ReadsAll h us ds as := by
  intro kvs
  induction kvs with
  | nil =>
    intro ds us e _ hl
    subst e
    cases us with
    | nil => exact ⟨_, .nil⟩
    | cons _ _ => cases hl
  | cons kv r ih =>
    intro ds us e hk hl
    subst e
    cases us with
    | nil => cases hl
    | cons u us =>
      obtain ⟨as, ha⟩ := ih (us := us) rfl (fun i k v h => hk (i + 1) k v (by simpa using h)) (by simpa using hl)
      obtain ⟨u', e1, e2⟩ := hk 0 kv.1 kv.2 rfl
      have e1' : u = u' := by simpa using e1
      subst e1'
      rcases keyIs_shape e2 with ⟨i, t, ek, rfl⟩ | ⟨x, t, ek, rfl⟩
      · refine ⟨_, .cons (d := kD kv.1) (as := []) (by rw [ek]; exact .int i t) ha⟩
      · refine ⟨_, .cons (d := kD kv.1) (as := []) (by rw [ek]; exact .str x t) ha⟩
mutual
/-- no def lies within -/
def noF : D → Bool
  | .list ds => noFs ds
  | .tuple ds => noFs ds
  | .dict kvs => !isFn kvs && noFk kvs
  | .none => true
  | .bool _ => true
  | .int _ => true
  | .str _ => true
def noFs : List D → Bool
  | [] => true
  | d :: ds => noF d && noFs ds
def noFk : List (D × D) → Bool
  | [] => true
  | (_, v) :: r => noF v && noFk r
end
mutual
theorem noF_plain : ∀ {d : D}, d.plain = true → noF d = true
  | .none, _ => by unfold noF; rfl
  | .bool _, _ => by unfold noF; rfl
  | .int _, _ => by unfold noF; rfl
  | .str _, _ => by unfold noF; rfl
  | .list ds, h => by unfold noF; exact noFs_plain h
  | .tuple ds, h => by unfold noF; exact noFs_plain h
  | .dict _, h => by cases h
theorem noFs_plain : ∀ {ds : List D}, PyData.plainAll ds = true → noFs ds = true
  | [], _ => by unfold noFs; rfl
  | d :: ds, h => by
    obtain ⟨h1, h2⟩ := Bool.and_eq_true_iff.mp (show (d.plain && PyData.plainAll ds) = true from h)
    unfold noFs
    rw [noF_plain h1, noFs_plain h2]
    rfl
end
mutual
theorem noF_nodict : ∀ {d : D}, d.hasDict = false → noF d = true
  | .none, _ => by unfold noF; rfl
  | .bool _, _ => by unfold noF; rfl
  | .int _, _ => by unfold noF; rfl
  | .str _, _ => by unfold noF; rfl
  | .list ds, h => by unfold noF; exact noFs_nodict h
  | .tuple ds, h => by unfold noF; exact noFs_nodict h
  | .dict _, h => by cases h
theorem noFs_nodict : ∀ {ds : List D}, PyData.hasDictAll ds = false → noFs ds = true
  | [], _ => by unfold noFs; rfl
  | d :: ds, h => by
    obtain ⟨h1, h2⟩ := Bool.or_eq_false_iff.mp (show (d.hasDict || PyData.hasDictAll ds) = false from h)
    unfold noFs
    rw [noF_nodict h1, noFs_nodict h2]
    rfl
end
theorem noFk_snd : ∀ {kvs : List (D × D)}, noFk kvs = true → noFs (kvs.map (·.2)) = true
  | [], _ => by unfold noFs; rfl
  | (k, v) :: r, h => by
    unfold noFk at h
    obtain ⟨h1, h2⟩ := Bool.and_eq_true_iff.mp h
    show noFs (v :: r.map (·.2)) = true
    unfold noFs
    rw [h1, noFk_snd h2]
    rfl
mutual
theorem Rp.reads (I : Inv X pins σ H s) : ∀ {v : V} {d : D}, Rp X.K H v d → noF d = true → ∀ u : Value, RelV v u → ∃ as, Reads s.heap u d as
  | _, _, .non, _, u, r => by cases r; exact ⟨_, Reads.none⟩
  | _, _, .bl b, _, u, r => by cases r; exact ⟨_, Reads.bool b⟩
  | _, _, .int i, _, u, r => by obtain ⟨t, rfl⟩ := r; exact ⟨_, Reads.int i t⟩
  | _, _, .str x _, _, u, r => by obtain ⟨t, rfl⟩ := r; exact ⟨_, Reads.str x t⟩
  | _, _, .lst q a, nf, u, r => by
    cases r
    unfold noF at nf
    obtain ⟨its, rv, ⟨o, n, ho, hc, _, hd⟩, _⟩ := I.list q.sq
    obtain ⟨as, hr⟩ := RpAll.reads I a nf its rv
    exact ⟨_, Reads.list ho hc hd hr⟩
  | _, _, .tup q a, nf, u, r => by
    cases r
    unfold noF at nf
    obtain ⟨its, rv, ⟨o, ho, hc, n, hd⟩, _⟩ := I.tuple q
    obtain ⟨as, hr⟩ := RpAll.reads I a nf its rv
    exact ⟨_, Reads.tuple ho hc hd hr⟩
  | _, _, .fn q, nf, _, _ => by unfold noF at nf; cases nf
  | _, _, .dct (a := a) (kvs := kvs) (ds := ds) q e b, nf, u, r => by
    cases r
    unfold noF at nf
    have nf := noFk_snd (Bool.and_eq_true_iff.mp nf).2
    obtain ⟨hz, hS, vs, rk, m⟩ := dk_rd I.hok (.inr ⟨_, q⟩)
    obtain ⟨es, ep, ⟨o, ho, hx, hd⟩, hl, hk⟩ := Heap.DictOf.raw m
    have hlen : kvs.length = vs.length := Paired.length rk
    have rvals : Vals (kvs.map (·.2)) (es.toList.map (·.val)) := by
      have e1 : es.toList.map (·.val) = vs.map (·.2) := by
        apply List.ext_getElem?
        intro i
        rw [List.getElem?_map, List.getElem?_map]
        by_cases hi : i < es.size
        · have hi2 : i < vs.length := by omega
          rw [List.getElem?_eq_getElem (by simpa using hi), List.getElem?_eq_getElem hi2]
          have := (hk i hi vs[i].1 vs[i].2 (List.getElem?_eq_getElem hi2)).2
          simp [this]
        · rw [List.getElem?_eq_none (by simpa using hi), List.getElem?_eq_none (by omega)]; rfl
      rw [e1]
      clear hk e1 hl hd ho hx m hz hS
      clear b e q
      clear hlen
      induction rk with
      | nil => exact .nil
      | cons p _ ih => exact .cons p.2 ih
    obtain ⟨as, h1⟩ := keys_reads (h := s.heap) (kvs := kvs) (us := es.toList.map (·.key)) e (fun i k v h => by
      have hi : i < kvs.length := (List.getElem?_eq_some_iff.mp h).1
      have hi2 : i < es.size := by omega
      have hi3 : i < vs.length := by omega
      have h3 : kvs[i]? = some kvs[i] := List.getElem?_eq_getElem hi
      have key : vs[i].1 = k := by
        have : ∀ {l : List (Key × V)} {m : List (Key × Value)}, KV l m → ∀ (j : Nat) p q, l[j]? = some p → m[j]? = some q → p.1 = q.1 := by
          intro l m r
          induction r with
          | nil => intro j p q h; simp at h
          | cons a _ ih =>
            intro j p q hp hq
            cases j with
            | zero => simp at hp hq; rw [← hp, ← hq]; exact a.1
            | succ j => exact ih j p q (by simpa using hp) (by simpa using hq)
        exact (this rk i _ _ h (List.getElem?_eq_getElem hi3)).symm
      have := (hk i hi2 vs[i].1 vs[i].2 (List.getElem?_eq_getElem hi3)).1
      refine ⟨es[i].key, ?_, ?_⟩
      · rw [List.getElem?_map, List.getElem?_eq_getElem (by simpa using hi2)]; simp
      · rw [← key]; exact this) (by simp; omega)
    obtain ⟨bs, h2⟩ := RpAll.reads I b nf _ rvals
    exact ⟨_, Reads.dict ho hx.1 hd h1 h2⟩
theorem RpAll.reads (I : Inv X pins σ H s) : ∀ {vs : List V} {ds : List D}, RpAll X.K H vs ds → noFs ds = true → ∀ us : List Value, Vals vs us → ∃ as, ReadsAll s.heap us ds as
  | _, _, .nil, _, us, r => by cases r; exact ⟨_, ReadsAll.nil⟩
  | _, _, .cons a b, nf, us, r => by
    unfold noFs at nf
    obtain ⟨n1, n2⟩ := Bool.and_eq_true_iff.mp nf
    cases r with
    | cons r1 r2 =>
      obtain ⟨as, q1⟩ := Rp.reads I a n1 _ r1
      obtain ⟨bs, q2⟩ := RpAll.reads I b n2 _ r2
      exact ⟨_, ReadsAll.cons q1 q2⟩
end
end

/-! ### expressions -/
abbrev ME := Rho → Cs → Option (Rv × Cs)
abbrev MT := Rho → Cs → Option (Bool × Cs)
abbrev MA := Rho → Cs → Option (List Rv × Cs)
def tX (K : PySem.W.Frag) (f : ME) : TE := fun σ H Q => ∃ ρ O cs r cs', f ρ cs = some (r, cs') ∧ EnvOk K O H ρ σ ∧ Wd K O cs H ∧ PostX K O H r cs' Q
def XE (X : Cx) (f : ME) (e : Expr) : Prop := PE X e (tX X.K f)
theorem pe_weak {X : Cx} {e : Expr} {t t' : TE} (h : PE X e t) (w : ∀ σ H Q, t' σ H Q → t σ H Q) : PE X e t' := ⟨fun pins s σ H Q I q => h.run pins s σ H Q I (w _ _ _ q)⟩
theorem pt_weak {X : Cx} {e : Expr} {t t' : TT} (h : PT X e t) (w : ∀ σ H Q, t' σ H Q → t σ H Q) : PT X e t' := ⟨fun pins s σ H Q I q => h.run pins s σ H Q I (w _ _ _ q)⟩
theorem ps_weak {X : Cx} {e : Stmt} {t t' : TS} (h : PS X e t) (w : ∀ D σ H, t' D σ H → t D σ H) : PS X e t' := ⟨fun pins s σ H D I q => h.run pins s σ H D I (w _ _ _ q)⟩
def Pst (K : PySem.W.Frag) (O : List (Option Addr)) (H : Hp) (cs' : Cs) (Q : Hp → Prop) : Prop := ∀ H', Ch O H H' → Wd K O cs' H' → Q H'
def tXT (K : PySem.W.Frag) (f : MT) : TT := fun σ H Q => ∃ ρ O cs b cs', f ρ cs = some (b, cs') ∧ EnvOk K O H ρ σ ∧ Wd K O cs H ∧ Pst K O H cs' (Q b)
def XT (X : Cx) (f : MT) (e : Expr) : Prop := PT X e (tXT X.K f)
def ArRs (K : PySem.W.Frag) (O : List (Option Addr)) (H : Hp) : List Rv → List V → Prop
  | [], [] => True
  | r :: rs, v :: vs => ArR K O r v H ∧ ArRs K O H rs vs
  | _, _ => False
theorem ArRs.ch {K : PySem.W.Frag} {O : List (Option Addr)} {H H' : Hp} (c : Ch O H H') : ∀ {rs : List Rv} {vs : List V}, ArRs K O H rs vs → ArRs K O H' rs vs
  | [], [], _ => trivial
  | r :: rs, v :: vs, h => ⟨h.1.ch c, ArRs.ch c h.2⟩
  | [], _ :: _, h => h
  | _ :: _, [], h => h
theorem ArRs.length {K : PySem.W.Frag} {O : List (Option Addr)} {H : Hp} : ∀ {rs : List Rv} {vs : List V}, ArRs K O H rs vs → rs.length = vs.length
  | [], [], _ => rfl
  | r :: rs, v :: vs, h => by rw [List.length_cons, List.length_cons, ArRs.length h.2]
  | [], _ :: _, h => h.elim
  | _ :: _, [], h => h.elim
def tXA (K : PySem.W.Frag) (f : MA) : TA := fun σ H Q => ∃ ρ O cs rs cs', f ρ cs = some (rs, cs') ∧ EnvOk K O H ρ σ ∧ Wd K O cs H ∧ ∀ vs H', Ch O H H' → Wd K O cs' H' → ArRs K O H' rs vs → Q vs H'
def XA (X : Cx) (f : MA) (es : List Expr) : Prop := PA X es (tXA X.K f)

/-- from H on, by H1 -/
theorem PostX.step {K : PySem.W.Frag} {O : List (Option Addr)} {H H1 : Hp} {cs1 : Cs} {r : Rv} {cs' : Cs} {Q : VK} (h : PostX K O H r cs' Q) (c : Ch O H H1) (w1 : Wd K O cs1 H1) : PostX K O H1 r cs' Q := fun v H' c' w' rv =>
  h v H' (c.trans c') w' (by
    cases r with
    | dat d => exact rv
    | own k => exact rv
    | exn nm d => exact rv
    | fr l =>
      obtain ⟨p, e, hp, q⟩ := rv
      refine ⟨p, e, ?_, q⟩
      cases z : H p with
      | none => rfl
      | some o =>
        have := c p o (w1.fresh hp) z
        rw [hp] at this; cases this)
theorem Pst.step {K : PySem.W.Frag} {O : List (Option Addr)} {H H1 : Hp} {cs' : Cs} {Q : Hp → Prop} (h : Pst K O H cs' Q) (c : Ch O H H1) : Pst K O H1 cs' Q := fun H' c' w' => h H' (c.trans c') w'

section
variable {X : Cx}
/-! names, constants -/
def xVar (i : Nat) : ME := fun ρ cs => (ρ[i]?.join).map fun r => (r, cs)
theorem xe_var {i : Nat} {x : Str} {pos : Pos} (hN : X.N[i]? = some x) (hv : Vis X.env.scope x) (hd : (x == ("__debug__" : Str)) = false := by decide) (hcd : (x == ("__classdict__" : Str)) = false := by decide) : XE X (xVar i) (.Name x pos) := by
  refine pe_weak (pe_var hN hv hd hcd) fun σ H Q ⟨ρ, O, cs, r, cs', e, en, w, p⟩ => ?_
  unfold xVar at e
  cases q : ρ[i]? with
  | none => rw [q] at e; cases e
  | some o =>
    rw [q] at e
    cases o with
    | none => cases e
    | some r' =>
      obtain ⟨v, h1, h2⟩ := en.slot i r' q
      cases e
      refine ⟨v, h1, p v H .refl w ?_⟩
      cases r with
      | dat d => exact h2
      | own k => exact h2
      | fr c => exact h2.elim
      | exn nm d => exact h2
def xC (d : D) : ME := fun _ cs => some (.dat d, cs)
theorem xe_const {e : Expr} {v : V} {d : D} (h : PE X e (tC v)) (r : ∀ K H, Rp K H v d) : XE X (xC d) e := by
  refine pe_weak h fun σ H Q ⟨ρ, O, cs, r', cs', e, en, w, p⟩ => ?_
  cases e
  exact p v H .refl w (r _ _)
theorem xe_int {i j pos} : XE X (xC (.int i)) (.Constant (.int i) j pos) := xe_const pe_int fun _ _ => .int i
theorem xe_bl {i j pos} : XE X (xC (.bool i)) (.Constant (.bool i) j pos) := xe_const pe_bl fun _ _ => .bl i
theorem xe_non {j pos} : XE X (xC .none) (.Constant .none j pos) := xe_const pe_non fun _ _ => .non
theorem xe_str {i j pos} (h : i.length ≤ sizeLine := by decide +kernel) : XE X (xC (.str i)) (.Constant (.str i) j pos) := xe_const pe_str fun _ _ => .str i h
theorem xe_gint {x : Str} {i : Int} {t : Tok} {pos : Pos} (hg : Gl X x) (hm : X.mg x = some (.int i t)) (hd : (x == ("__debug__" : Str)) = false := by decide) : XE X (xC (.int i)) (.Name x pos) := xe_const (v := .int i) (pe_glob hg hm ⟨t, rfl⟩ hd) fun _ _ => .int i
theorem xe_gstr {x z : Str} {t : Tok} {pos : Pos} (hg : Gl X x) (hm : X.mg x = some (.str z t)) (hd : (x == ("__debug__" : Str)) = false := by decide) (h : z.length ≤ sizeLine := by decide +kernel) : XE X (xC (.str z)) (.Name x pos) := xe_const (v := .str z) (pe_glob hg hm ⟨t, rfl⟩ hd) fun _ _ => .str z h

/-! two-place operations -/
def OpS (K : PySem.W.Frag) (r : R2) (g : D → D → Option Rv) : Prop := ∀ (O : List (Option Addr)) (cs : Cs) (H : Hp) (x y : V) (d e : D) (z : Rv) (Q : VK), Wd K O cs H → Sh K O H x d → Sh K O H y e → g d e = some z → PostX K O H z cs Q → r x y H Q
def mB (g : D → D → Option Rv) (fa fb : ME) : ME := fun ρ cs => (fa ρ cs).bind fun p => (fb ρ p.2).bind fun q => (rd (deg p.1) q.2).bind fun d => (rd (deg q.1) q.2).bind fun e => (g d e).map fun z => (z, q.2)
theorem mB_some {g : D → D → Option Rv} {fa fb : ME} {ρ : Rho} {cs cs' : Cs} {z : Rv} (h : mB g fa fb ρ cs = some (z, cs')) :
    ∃ x cs1 y d e, fa ρ cs = some (x, cs1) ∧ fb ρ cs1 = some (y, cs') ∧ rd (deg x) cs' = some d ∧ rd (deg y) cs' = some e ∧ g d e = some z := by
  unfold mB at h
  obtain ⟨⟨x, cs1⟩, h1, h⟩ := Option.bind_eq_some_iff.mp h
  obtain ⟨⟨y, cs2⟩, h2, h⟩ := Option.bind_eq_some_iff.mp h
  obtain ⟨d, h3, h⟩ := Option.bind_eq_some_iff.mp h
  obtain ⟨e, h4, h⟩ := Option.bind_eq_some_iff.mp h
  obtain ⟨z', h5, h⟩ := Option.map_eq_some_iff.mp h
  cases h
  exact ⟨x, cs1, y, d, e, h1, h2, h3, h4, h5⟩
theorem tOp_of {K : PySem.W.Frag} {r : R2} {g : D → D → Option Rv} {fa fb : ME} (hs : OpS K r g) {σ : L2.St} {H : Hp} {Q : VK} (h : tX K (mB g fa fb) σ H Q) : tOp r (tX K fa) (tX K fb) σ H Q := by
  obtain ⟨ρ, O, cs, z, cs', e, en, w, p⟩ := h
  obtain ⟨x, cs1, y, d, e', h1, h2, h3, h4, h5⟩ := mB_some e
  refine ⟨ρ, O, cs, x, cs1, h1, en, w, fun v1 H1 c1 w1 r1 => ?_⟩
  refine ⟨ρ, O, cs1, y, cs', h2, en.ch c1, w1, fun v2 H2 c2 w2 r2 => ?_⟩
  exact hs O cs' H2 v1 v2 d e' z Q w2 ((r1.deg.ch c2).sh w2 h3) (r2.deg.sh w2 h4) h5 (p.step (c1.trans c2) w2)
theorem xe_bin {op : Operator} {r : R2} {g : D → D → Option Rv} {a b : Expr} {fa fb : ME} {pos : Pos} (ho : OpR X (binaryOp op) r) (hs : OpS X.K r g) (ha : XE X fa a) (hb : XE X fb b) : XE X (mB g fa fb) (.BinOp a op b pos) :=
  pe_weak (pe_op ho ha hb) fun σ H Q h => tOp_of hs h
theorem xe_cmp {op : CmpOp} {r : R2} {g : D → D → Option Rv} {a b : Expr} {fa fb : ME} {pos : Pos} (ho : OpR X (compareOp op) r) (hs : OpS X.K r g) (ha : XE X fa a) (hb : XE X fb b) (hm : behindInMarks op b = false := by first | exact nobehind _ (by decide) (by decide) | rfl) :
    XE X (mB g fa fb) (.Compare a [op] [b] pos) := pe_weak (pe_cmpR ho ha hb hm) fun σ H Q h => tOp_of hs h
theorem xe_ix {r : R2} {g : D → D → Option Rv} {a b : Expr} {fa fb : ME} {pos : Pos} (ho : IxR X r) (hs : OpS X.K r g) (ha : XE X fa a) (hb : XE X fb b) (hp : PlainIx b := by exact fun _ _ => rfl) : XE X (mB g fa fb) (.Subscript a b pos) :=
  pe_weak (pe_ix ho ha hb hp) fun σ H Q h => tOp_of hs h
def mU (g : D → Option Rv) (fa : ME) : ME := fun ρ cs => (fa ρ cs).bind fun p => (rd (deg p.1) p.2).bind fun d => (g d).map fun z => (z, p.2)
theorem mU_some {g : D → Option Rv} {fa : ME} {ρ : Rho} {cs cs' : Cs} {z : Rv} (h : mU g fa ρ cs = some (z, cs')) : ∃ x d, fa ρ cs = some (x, cs') ∧ rd (deg x) cs' = some d ∧ g d = some z := by
  unfold mU at h
  obtain ⟨⟨x, cs1⟩, h1, h⟩ := Option.bind_eq_some_iff.mp h
  obtain ⟨d, h3, h⟩ := Option.bind_eq_some_iff.mp h
  obtain ⟨z', h5, h⟩ := Option.map_eq_some_iff.mp h
  cases h
  exact ⟨x, d, h1, h3, h5⟩
def UnS (K : PySem.W.Frag) (r : V → Hp → VK → Prop) (g : D → Option Rv) : Prop := ∀ (O : List (Option Addr)) (cs : Cs) (H : Hp) (x : V) (d : D) (z : Rv) (Q : VK), Wd K O cs H → Sh K O H x d → g d = some z → PostX K O H z cs Q → r x H Q
theorem xe_un {op : UnaryOp} {r : V → Hp → VK → Prop} {g : D → Option Rv} {a : Expr} {fa : ME} {pos : Pos} (ho : UnR X (unaryOp op) r) (hs : UnS X.K r g) (ha : XE X fa a) : XE X (mU g fa) (.UnaryOp op a pos) :=
  pe_weak (pe_un ho ha) fun σ H Q ⟨ρ, O, cs, z, cs', e, en, w, p⟩ => by
    obtain ⟨x, d, h1, h2, h3⟩ := mU_some e
    exact ⟨ρ, O, cs, x, cs', h1, en, w, fun v1 H1 c1 w1 r1 => hs O cs' H1 v1 d z Q w1 (r1.deg.sh w1 h2) h3 (p.step c1 w1)⟩

/-! arguments -/
def aNil : MA := fun _ cs => some ([], cs)
def aCons (fa : ME) (fr : MA) : MA := fun ρ cs => (fa ρ cs).bind fun p => (fr ρ p.2).map fun q => (deg p.1 :: q.1, q.2)
theorem xa_nil : XA X aNil [] := ⟨fun pos pins s σ H Q I ⟨ρ, O, cs, rs, cs', e, en, w, p⟩ => by
  cases e
  exact pa_nil.run pos pins s σ H Q I (p [] H .refl w trivial)⟩
theorem pa_weak {es : List Expr} {t t' : TA} (h : PA X es t) (w : ∀ σ H Q, t' σ H Q → t σ H Q) : PA X es t' := ⟨fun pos pins s σ H Q I q => h.run pos pins s σ H Q I (w _ _ _ q)⟩
theorem aCons_some {fa : ME} {fr : MA} {ρ : Rho} {cs cs' : Cs} {rs : List Rv} (h : aCons fa fr ρ cs = some (rs, cs')) : ∃ x cs1 r, fa ρ cs = some (x, cs1) ∧ fr ρ cs1 = some (r, cs') ∧ rs = deg x :: r := by
  unfold aCons at h
  obtain ⟨⟨x, cs1⟩, h1, h⟩ := Option.bind_eq_some_iff.mp h
  obtain ⟨⟨r, cs2⟩, h2, h⟩ := Option.map_eq_some_iff.mp h
  cases h
  exact ⟨x, cs1, r, h1, h2, rfl⟩
theorem tCons_of {K : PySem.W.Frag} {fa : ME} {fr : MA} {σ : L2.St} {H : Hp} {Q : List V → Hp → Prop} (h : tXA K (aCons fa fr) σ H Q) : tCons (tX K fa) (tXA K fr) σ H Q := by
  obtain ⟨ρ, O, cs, rs, cs', e, en, w, p⟩ := h
  obtain ⟨x, cs1, r, h1, h2, rfl⟩ := aCons_some e
  refine ⟨ρ, O, cs, x, cs1, h1, en, w, fun v1 H1 c1 w1 r1 => ?_⟩
  exact ⟨ρ, O, cs1, r, cs', h2, en.ch c1, w1, fun vs H2 c2 w2 r2 => p _ _ (c1.trans c2) w2 ⟨r1.deg.ch c2, r2⟩⟩
theorem xa_cons {e : Expr} {es : List Expr} {fa : ME} {fr : MA} (ha : XE X fa e) (hr : XA X fr es) (hs : starEach (e :: es) X.env = (false, eval e X.env) :: starEach es X.env := by rfl) : XA X (aCons fa fr) (e :: es) :=
  pa_weak (pa_cons ha hr hs) fun σ H Q h => tCons_of h
/-- a consumer of arguments -/
def CaS (K : PySem.W.Frag) (r : List V → Hp → VK → Prop) (g : List D → Option Rv) : Prop := ∀ (O : List (Option Addr)) (cs : Cs) (H : Hp) (vs : List V) (ds : List D) (z : Rv) (Q : VK), Wd K O cs H → Paired (Sh K O H) vs ds → g ds = some z → PostX K O H z cs Q → r vs H Q
def rdAll : List Rv → Cs → Option (List D)
  | [], _ => some []
  | r :: rs, cs => (rd r cs).bind fun d => (rdAll rs cs).map fun ds => d :: ds
theorem ArRs.sh {K : PySem.W.Frag} {O : List (Option Addr)} {H : Hp} {cs : Cs} (w : Wd K O cs H) : ∀ {rs : List Rv} {vs : List V} {ds : List D}, ArRs K O H rs vs → rdAll rs cs = some ds → Paired (Sh K O H) vs ds
  | [], [], ds, _, e => by cases e; exact .nil
  | r :: rs, v :: vs, ds, h, e => by
    unfold rdAll at e
    obtain ⟨d, h1, e⟩ := Option.bind_eq_some_iff.mp e
    obtain ⟨ds', h2, e⟩ := Option.map_eq_some_iff.mp e
    subst e
    exact .cons (h.1.sh w h1) (ArRs.sh w h.2 h2)
  | [], _ :: _, _, h, _ => h.elim
  | _ :: _, [], _, h, _ => h.elim
def mCall (g : List D → Option Rv) (fa : MA) : ME := fun ρ cs => (fa ρ cs).bind fun p => (rdAll p.1 p.2).bind fun ds => (g ds).map fun z => (z, p.2)
theorem mCall_some {g : List D → Option Rv} {fa : MA} {ρ : Rho} {cs cs' : Cs} {z : Rv} (h : mCall g fa ρ cs = some (z, cs')) : ∃ rs ds, fa ρ cs = some (rs, cs') ∧ rdAll rs cs' = some ds ∧ g ds = some z := by
  unfold mCall at h
  obtain ⟨⟨x, cs1⟩, h1, h⟩ := Option.bind_eq_some_iff.mp h
  obtain ⟨d, h3, h⟩ := Option.bind_eq_some_iff.mp h
  obtain ⟨z', h5, h⟩ := Option.map_eq_some_iff.mp h
  cases h
  exact ⟨x, d, h1, h3, h5⟩
theorem tCB_of {K : PySem.W.Frag} {r : List V → Hp → VK → Prop} {g : List D → Option Rv} {fa : MA} (hs : CaS K r g) {σ : L2.St} {H : Hp} {Q : VK} (h : tX K (mCall g fa) σ H Q) : tCB r (tXA K fa) σ H Q := by
  obtain ⟨ρ, O, cs, z, cs', e, en, w, p⟩ := h
  obtain ⟨rs, ds, h1, h2, h3⟩ := mCall_some e
  exact ⟨ρ, O, cs, rs, cs', h1, en, w, fun vs H1 c1 w1 r1 => hs O cs' H1 vs ds z Q w1 (r1.sh w1 h2) h3 (p.step c1 w1)⟩
theorem xe_callB {id : String} {r : List V → Hp → VK → Prop} {g : List D → Option Rv} {x : Str} {e : Expr} {es : List Expr} {fa : MA} {p pos : Pos} (hc : CallR X (.builtin id) r) (hs : CaS X.K r g) (hg : Gl X x) (hm : X.mg x = none) (hv : bootBuiltins x = some (.builtin id)) (ha : XA X fa (e :: es))
    (hn : x ≠ "__name__" := by decide) (hdb : (x == ("__debug__" : Str)) = false := by decide)
    (he : starEach (e :: es) X.env = (false, eval e X.env) :: starEach es X.env := by rfl) (hpl : (backTo pos (starEach es X.env)).any (·.1) = false := by rfl) : XE X (mCall g fa) (.Call (.Name x p) (e :: es) [] pos) :=
  pe_weak (pe_callB hc hg hm hv ha hn hdb he hpl) fun σ H Q h => tCB_of hs h
theorem xe_callTy {T : String} {r : List V → Hp → VK → Prop} {g : List D → Option Rv} {x : Str} {e : Expr} {es : List Expr} {fa : MA} {p pos : Pos} (hc : CallR X (.type T) r) (hs : CaS X.K r g) (hg : Gl X x) (hm : X.mg x = none) (hv : bootBuiltins x = some (.type T)) (ha : XA X fa (e :: es))
    (hn : x ≠ "__name__" := by decide) (hdb : (x == ("__debug__" : Str)) = false := by decide)
    (he : starEach (e :: es) X.env = (false, eval e X.env) :: starEach es X.env := by rfl) (hpl : (backTo pos (starEach es X.env)).any (·.1) = false := by rfl) : XE X (mCall g fa) (.Call (.Name x p) (e :: es) [] pos) :=
  pe_weak (pe_callTy hc hg hm hv ha hn hdb he hpl) fun σ H Q h => tCB_of hs h
/-! displays: what is put in is data -/
def datAll : List Rv → Option (List D)
  | [] => some []
  | .dat d :: rs => (datAll rs).map fun ds => d :: ds
  | _ :: _ => none
theorem datAll_rp {K : PySem.W.Frag} {O : List (Option Addr)} {H : Hp} : ∀ {rs : List Rv} {vs : List V} {ds : List D}, ArRs K O H rs vs → datAll rs = some ds → RpAll K (hd O H) vs ds
  | [], [], ds, _, e => by cases e; exact .nil
  | .dat d :: rs, v :: vs, ds, h, e => by
    unfold datAll at e
    obtain ⟨ds', h2, e⟩ := Option.map_eq_some_iff.mp e
    subst e
    exact .cons h.1 (datAll_rp h.2 h2)
  | .own _ :: _, _ :: _, _, _, e => by cases e
  | .fr _ :: _, _ :: _, _, _, e => by cases e
  | .exn _ _ :: _, _ :: _, _, _, e => by cases e
  | [], _ :: _, _, h, _ => h.elim
  | _ :: _, [], _, h, _ => h.elim
def mDisp (g : List D → Rv) (fa : MA) : ME := fun ρ cs => (fa ρ cs).bind fun p => (datAll p.1).bind fun ds => if ds.length ≤ sizeLine then some (g ds, p.2) else none
theorem mDisp_some {g : List D → Rv} {fa : MA} {ρ : Rho} {cs cs' : Cs} {z : Rv} (h : mDisp g fa ρ cs = some (z, cs')) : ∃ rs ds, fa ρ cs = some (rs, cs') ∧ datAll rs = some ds ∧ ds.length ≤ sizeLine ∧ g ds = z := by
  unfold mDisp at h
  obtain ⟨⟨x, cs1⟩, h1, h⟩ := Option.bind_eq_some_iff.mp h
  obtain ⟨d, h3, h⟩ := Option.bind_eq_some_iff.mp h
  split at h
  · cases h
    exact ⟨x, d, h1, h3, by assumption, rfl⟩
  · cases h
def xLst (fa : MA) : ME := mDisp .fr fa
def xTup (fa : MA) : ME := mDisp (fun ds => .dat (.tuple ds)) fa
theorem xe_lst {es : List Expr} {fa : MA} {pos : Pos} (ha : XA X fa es) : XE X (xLst fa) (.List es pos) :=
  pe_weak (pe_lst ha) fun σ H Q ⟨ρ, O, cs, z, cs', e, en, w, p⟩ => by
    obtain ⟨rs, ds, h1, h2, h3, rfl⟩ := mDisp_some e
    refine ⟨ρ, O, cs, rs, cs', h1, en, w, fun vs H1 c1 w1 r1 => ?_⟩
    have ra := datAll_rp r1 h2
    exact ⟨by rw [ra.length]; exact h3, post_list w1 ra (p.step c1 w1)⟩
theorem xe_tup {es : List Expr} {fa : MA} {pos : Pos} {x1} (ha : XA X fa es) : XE X (xTup fa) (.Tuple es x1 pos) :=
  pe_weak (pe_tup ha) fun σ H Q ⟨ρ, O, cs, z, cs', e, en, w, p⟩ => by
    obtain ⟨rs, ds, h1, h2, h3, rfl⟩ := mDisp_some e
    refine ⟨ρ, O, cs, rs, cs', h1, en, w, fun vs H1 c1 w1 r1 => ?_⟩
    have ra := datAll_rp r1 h2
    exact ⟨by rw [ra.length]; exact h3, post_tup w1 ra (p.step c1 w1)⟩

/-! truth, tests -/
def tru : D → Option Bool
  | .none => some false
  | .bool b => some b
  | .int i => some (i != 0)
  | .str x => some ((x.length : Int) != 0)
  | .list ds => some (!ds.isEmpty)
  | .tuple ds => some (!ds.isEmpty)
  | .dict ds => some (!ds.isEmpty)
theorem isEmpty_rp {K : PySem.W.Frag} {H : Hp} {vs : List V} {ds : List D} (r : RpAll K H vs ds) : vs.isEmpty = ds.isEmpty := by cases r <;> rfl
theorem tru_v {K : PySem.W.Frag} {O : List (Option Addr)} {H : Hp} {v : V} {d : D} {k : Bool} (h : Sh K O H v d) (e : tru d = some k) (hd : ∀ ds, d ≠ .dict ds) : TruV K v H k := by
  cases d with
  | none => cases h.none; cases e; rfl
  | bool b => cases h.bool; cases e; rfl
  | int i => cases h.int; cases e; rfl
  | str x => obtain ⟨rfl, hz⟩ := h.str; cases e; exact ⟨hz, rfl⟩
  | list ds =>
    obtain ⟨a, vs, rfl, q, r⟩ := h.list
    cases e
    exact .inl ⟨vs, q.sq, by rw [isEmpty_rp r]⟩
  | tuple ds =>
    obtain ⟨a, vs, rfl, q, r⟩ := h.tuple
    cases e
    exact .inr (.inl ⟨vs, q, by rw [isEmpty_rp r]⟩)
  | dict ds => exact absurd rfl (hd ds)
/-- a value's truth as the machine tells it (no dict) -/
def truD : D → Option Bool
  | .dict _ => none
  | d => tru d
theorem truD_v {K : PySem.W.Frag} {O : List (Option Addr)} {H : Hp} {v : V} {d : D} {k : Bool} (h : Sh K O H v d) (e : truD d = some k) : TruV K v H k := by
  cases d with
  | dict ds => cases e
  | _ => exact tru_v h e (fun _ z => by cases z)
def mTru (fa : ME) : MT := fun ρ cs => (fa ρ cs).bind fun p => (rd (deg p.1) p.2).bind fun d => (truD d).map fun k => (k, p.2)
theorem mTru_some {fa : ME} {ρ : Rho} {cs cs' : Cs} {k : Bool} (h : mTru fa ρ cs = some (k, cs')) : ∃ x d, fa ρ cs = some (x, cs') ∧ rd (deg x) cs' = some d ∧ truD d = some k := by
  unfold mTru at h
  obtain ⟨⟨x, cs1⟩, h1, h⟩ := Option.bind_eq_some_iff.mp h
  obtain ⟨d, h3, h⟩ := Option.bind_eq_some_iff.mp h
  obtain ⟨z', h5, h⟩ := Option.map_eq_some_iff.mp h
  cases h
  exact ⟨x, d, h1, h3, h5⟩
theorem xt_of {a : Expr} {fa : ME} (ha : XE X fa a) (he : ∀ whole, isTrue a X.env whole = (do let v ← whole; standAt a.pos; holding [v] (truthy v)) := by intro _; rfl) : XT X (mTru fa) a :=
  pt_weak (pt_truth ha he) fun σ H Q ⟨ρ, O, cs, k, cs', e, en, w, p⟩ => by
    obtain ⟨x, d, h1, h2, h3⟩ := mTru_some e
    exact ⟨ρ, O, cs, x, cs', h1, en, w, fun v1 H1 c1 w1 r1 => ⟨k, truD_v (r1.deg.sh w1 h2) h3, p H1 c1 w1⟩⟩
end
end DL
namespace DL
open PySem PySem.Spec PyProof.Rows L2

/-! ### operations by data -/
abbrev di (i : Int) : Rv := .dat (.int i)
abbrev db (b : Bool) : Rv := .dat (.bool b)
/-- room in C's stack -/
structure Rm (X : Cx) : Prop where
  hd : X.A.handled = none
  un : X.A.units + 200 < cLine
  gd : X.A.guards = some []
  calm : X.calm = true
  nd : X.base.NoDigits
section
variable {X : Cx}
theorem lst_rd {pins : List (Addr × Obj)} {s : Shared} {σ : L2.St} {H : Hp} (I : Inv X pins σ H s) {a : Addr} {xs : List V} (q : LstAt X.K H a xs) : xs.length ≤ sizeLine ∧ ∃ (its : List Value) (n : Nat), Vals xs its ∧ s.heap.get? a = some { cls := .type "list", data := .seq its.toArray n } := by
  rcases q with q | ⟨its, n, h1, h2, h3⟩
  · exact q.ok I.hok
  · exact ⟨h2, its, n, h3, I.kIn a _ h1⟩
theorem OpS.or_l {K : PySem.W.Frag} {r r' : R2} {g : D → D → Option Rv} (h : OpS K r g) : OpS K (fun x y H Q => r x y H Q ∨ r' x y H Q) g := fun O cs H x y d e z Q w a b c p => .inl (h O cs H x y d e z Q w a b c p)
theorem ite_some {α : Type} {c : Prop} [Decidable c] {a b : α} (h : (if c then some a else none) = some b) : c ∧ a = b := by
  split at h
  · exact ⟨by assumption, Option.some.inj h⟩
  · cases h
/-- + -/
def dAdd : D → D → Option Rv
  | .int i, .int j => some (di (i + j))
  | .str x, .str y => if x.length + y.length ≤ sizeLine then some (.dat (.str (x ++ y))) else none
  | .list x, .list y => if x.length + y.length ≤ sizeLine then some (.fr (x ++ y)) else none
  | .tuple x, .tuple y => if x.length + y.length ≤ sizeLine then some (.dat (.tuple (x ++ y))) else none
  | _, _ => none
def rCatL (K : PySem.W.Frag) : R2 := fun x y H Q => ∃ l b xs zs, x = .ref l ∧ y = .ref b ∧ LstAt K H l xs ∧ LstAt K H b zs ∧ xs.length + zs.length ≤ sizeLine ∧ ∀ p, H p = none → Q (.ref p) (upd H p (.lst (xs ++ zs)))
theorem op_catL : OpR X (binaryOp .Add) (rCatL X.K) := by
  intro pins s σ H x y v u Q I rx ry h
  obtain ⟨l, b, xs, zs, rfl, rfl, h1, h2, hz, q⟩ := h
  cases rx
  cases ry
  obtain ⟨_, its, n, r, e⟩ := lst_rd I h1
  obtain ⟨_, its2, n2, r2, e2⟩ := lst_rd I h2
  have hl := r.length
  have hl2 := r2.length
  refine PySem.P.add_list e e2 ?_ (by rw [List.size_toArray, List.size_toArray]; omega)
  have ea : its.toArray ++ its2.toArray = (its ++ its2).toArray := by simp
  rw [ea]
  exact ⟨.ref _, _, I.lnew (t' := s.toks) (r.append r2) (by rw [List.length_append]; omega), rfl, q _ I.fresh⟩
def rAddD (K : PySem.W.Frag) : R2 := fun x y H Q => (rI0 (fun i j => .int (i + j)) x y H Q ∨ (∃ i j, x = .str i ∧ y = .str j ∧ i.length + j.length ≤ sizeLine ∧ Q (.str (i ++ j)) H)) ∨ rCatL K x y H Q ∨ rCatA K x y H Q
theorem op_addD : OpR X (binaryOp .Add) (rAddD X.K) := OpR.or (OpR.or op_add op_add_str) (OpR.or op_catL op_catA)
theorem str_len (x y : Str) : (x ++ y).length = x.length + y.length := by
  show (x.cps ++ y.cps).size = x.cps.size + y.cps.size
  exact Array.size_append
theorem addS {K : PySem.W.Frag} : OpS K (rAddD K) dAdd := by
  intro O cs H x y d e z Q w sx sy g p
  cases d with
  | int i =>
    cases e with
    | int j =>
      cases g
      exact .inl (.inl ⟨i, j, sx.int, sy.int, post_int w p⟩)
    | _ => cases g
  | str i =>
    cases e with
    | str j =>
      obtain ⟨rfl, h1⟩ := sx.str
      obtain ⟨rfl, h2⟩ := sy.str
      obtain ⟨hz, rfl⟩ := ite_some g
      exact .inl (.inr ⟨i, j, rfl, rfl, hz, post_str w (by rw [str_len]; exact hz) p⟩)
    | _ => cases g
  | list ds =>
    cases e with
    | list es =>
      obtain ⟨a, vs, rfl, q1, r1⟩ := sx.list
      obtain ⟨b, us, rfl, q2, r2⟩ := sy.list
      obtain ⟨hz, rfl⟩ := ite_some g
      exact .inr (.inl ⟨a, b, vs, us, rfl, rfl, q1, q2, by rw [r1.length, r2.length]; exact hz, post_list w (r1.append r2) p⟩)
    | _ => cases g
  | tuple ds =>
    cases e with
    | tuple es =>
      have sx' := sx
      have sy' := sy
      obtain ⟨a, vs, rfl, q1, r1⟩ := sx.tuple
      obtain ⟨b, us, rfl, q2, r2⟩ := sy.tuple
      obtain ⟨hz, rfl⟩ := ite_some g
      · refine .inr (.inr ⟨a, b, vs, us, rfl, rfl, q1, q2, by rw [r1.length, r2.length]; exact hz, fun e => ?_, fun _ e => ?_, fun _ _ => post_tup w (r1.append r2) p⟩)
        · subst e
          cases r1
          rcases sy' with sy' | ⟨_, _, _, _, h, _⟩
          · exact post_val w sy' p
          · cases h
        · subst e
          cases r2
          rcases sx' with sx' | ⟨_, _, _, _, h, _⟩
          · exact post_val w sx' (by simpa using p)
          · cases h
    | _ => cases g
  | _ => cases g
/-- ints alone -/
def dI (g : Int → Int → Option Rv) : D → D → Option Rv
  | .int i, .int j => g i j
  | _, _ => none
theorem intS {K : PySem.W.Frag} {C : Int → Int → Prop} [∀ i j, Decidable (C i j)] {f : Int → Int → Int} : OpS K (rI C fun i j => .int (f i j)) (dI fun i j => if C i j then some (di (f i j)) else none) := by
  intro O cs H x y d e z Q w sx sy g p
  cases d with
  | int i =>
    cases e with
    | int j =>
      change (if C i j then some (di (f i j)) else none) = some z at g
      obtain ⟨hz, rfl⟩ := ite_some g
      exact ⟨i, j, sx.int, sy.int, hz, post_int w p⟩
    | _ => cases g
  | _ => cases g
theorem intS0 {K : PySem.W.Frag} {f : Int → Int → Int} : OpS K (rI0 fun i j => .int (f i j)) (dI fun i j => some (di (f i j))) := by
  intro O cs H x y d e z Q w sx sy g p
  cases d with
  | int i =>
    cases e with
    | int j =>
      cases g
      exact ⟨i, j, sx.int, sy.int, post_int w p⟩
    | _ => cases g
  | _ => cases g
def dSub := dI fun i j => some (di (i - j))
theorem subS {K : PySem.W.Frag} : OpS K (rI0 fun i j => .int (i - j)) dSub := intS0
def dMod := dI fun i j => if j ≠ 0 then some (di (i.fmod j)) else none
theorem modS {K : PySem.W.Frag} : OpS K (rI (fun _ j => j ≠ 0) fun i j => .int (i.fmod j)) dMod := intS
/-- // -/
def CDv (_ j : Int) : Prop := j ≠ 0 ∧ j.natAbs.log2 < 9000
instance (i j : Int) : Decidable (CDv i j) := inferInstanceAs (Decidable (_ ∧ _))
theorem op_fdv : OpR X (binaryOp .FloorDiv) (rI CDv fun i j => .int (i.fdiv j)) := opI fun i j _ _ _ _ _ hc q => floordiv_int hc.1 q (.inl (PyProof.noPylong_of_log2 hc.2))
def dDiv := dI fun i j => if CDv i j then some (di (i.fdiv j)) else none
theorem divS {K : PySem.W.Frag} : OpS K (rI CDv fun i j => .int (i.fdiv j)) dDiv := intS
/-- ** -/
def CPw (i j : Int) : Prop := 0 ≤ j ∧ (Builtin.Int.intBits i : Int) * j ≤ 2 ^ 27
instance (i j : Int) : Decidable (CPw i j) := inferInstanceAs (Decidable (_ ∧ _))
theorem op_pw : OpR X (binaryOp .Pow) (rI CPw fun i j => .int (i ^ j.toNat)) := opI fun i j _ _ _ _ _ hc q => pow_int hc.1 hc.2 q
def dPow := dI fun i j => if CPw i j then some (di (i ^ j.toNat)) else none
theorem powS {K : PySem.W.Frag} : OpS K (rI CPw fun i j => .int (i ^ j.toNat)) dPow := intS
/-- * -/
def CMl (i j : Int) : Prop := i.natAbs.log2 + j.natAbs.log2 < 100000000
instance (i j : Int) : Decidable (CMl i j) := inferInstanceAs (Decidable (_ < _))
theorem CMl.ok {i j : Int} (h : CMl i j) : IntMulOk i j := by
  have bb : ∀ x : Int, Builtin.Int.intBits x ≤ x.natAbs.log2 + 1 := fun x => by
    unfold Builtin.Int.intBits
    split <;> omega
  have h1 := bb i
  have h2 := bb j
  have h3 : i.natAbs.log2 + j.natAbs.log2 < 100000000 := h
  have el : bitsLine = 134217728 := by decide
  intro zz
  rw [Bool.and_eq_true] at zz
  have z2 := zz.2
  unfold Builtin.Int.intTooBig at z2
  have z3 := of_decide_eq_true z2
  rw [el] at z3
  omega
theorem op_ml : OpR X (binaryOp .Mult) (rI CMl fun i j => .int (i * j)) := opI fun _ _ _ _ _ _ _ hc q => mul_int q hc.ok
def rRepL : R2 := fun x y H Q => ∃ l k xs, x = .ref l ∧ y = .int k ∧ H l = some (.lst xs) ∧ -(2 ^ 63) ≤ k ∧ k < 2 ^ 63 ∧ xs.length * k.toNat ≤ sizeLine ∧
  ∀ p, H p = none → Q (.ref p) (upd H p (.lst (List.replicate k.toNat xs).flatten))
def rMlS : R2 := fun x y H Q => ∃ (z : Str) (k : Int), x = .str z ∧ y = .int k ∧ 0 ≤ k ∧ k < 2 ^ 31 ∧ z.length * k.toNat ≤ 16777216 ∧ Q (.str (Txt.mul z k)) H
theorem tooLong_ok {n : Nat} (h : n ≤ 16777216) : Builtin.Str.tooLong n = false := by
  unfold Builtin.Str.tooLong
  rw [decide_eq_false_iff_not, sizeLine_eq]
  omega
theorem op_mlS : OpR X (binaryOp .Mult) rMlS := by
  intro pins s σ H x y v u Q I rx ry h
  obtain ⟨z, k, rfl, rfl, h0, h1, h2, q⟩ := h
  obtain ⟨t, rfl⟩ := rx
  obtain ⟨t', rfl⟩ := ry
  refine PySem.SB.mul ⟨?_, fun _ _ => ?_, fun _ _ => tooLong_ok h2⟩ fun t2 k2 => ⟨.str _, H, I.tok _, ⟨_, rfl⟩, q⟩
  · rw [decide_eq_false (by omega), decide_eq_false (by omega)]; rfl
  · have hk : 1 ≤ k := by omega
    have hz : (z.length : Int) * k ≤ 16777216 := by
      have h3 : ((z.length * k.toNat : Nat) : Int) ≤ 16777216 := Int.ofNat_le.mpr h2
      rw [Int.natCast_mul, Int.toNat_of_nonneg h0] at h3
      exact h3
    have h4 : (z.length : Int) ≤ (z.length : Int) * k := by
      have := Int.mul_le_mul_of_nonneg_left hk (Int.natCast_nonneg z.length)
      simpa using this
    have h5 : (4294967296 : Int) ≤ (2 ^ 63 - 1) / k := by
      rw [Int.le_ediv_iff_mul_le (by omega)]
      omega
    omega
end
end DL
namespace DL
open PySem PySem.Spec PyProof.Rows L2
section
variable {X : Cx}
/-! comparisons -/
/-- by data: C what is asked -/
def rD (K : PySem.W.Frag) (C : D → D → Prop) (g : D → D → Bool) : R2 := fun x y H Q => ∃ d e, Rp K H x d ∧ Rp K H y e ∧ C d e ∧ Q (.bl (g d e)) H
theorem dS {K : PySem.W.Frag} {C : D → D → Prop} [∀ d e, Decidable (C d e)] {g : D → D → Bool} : OpS K (rD K C g) (fun d e => if C d e then some (db (g d e)) else none) := by
  intro O cs H x y d e z Q w sx sy h p
  obtain ⟨hc, rfl⟩ := ite_some h
  exact ⟨d, e, sx.rp, sy.rp, hc, post_bool w p⟩
def CEq (d e : D) : Prop := d.plain = true ∧ e.plain = true ∧ min d.depth e.depth ≤ 100
instance (d e : D) : Decidable (CEq d e) := inferInstanceAs (Decidable (_ ∧ _))
theorem op_eqD' (rm : Rm X) : OpR X (compareOp .Eq) (rD X.K CEq PyData.eqv) := by
  intro pins s σ H x y v u Q I rx ry h
  obtain ⟨d, e, hd, he, hc, q⟩ := h
  obtain ⟨as, r1⟩ := hd.reads I (noF_plain hc.1) _ rx
  obtain ⟨bs, r2⟩ := he.reads I (noF_plain hc.2.1) _ ry
  have hu := rm.un
  have := hc.2.2
  exact PySem.SeqAt.eq_plain r1 r2 hc.1 hc.2.1 (by omega) ⟨.bl _, H, I, rfl, q⟩
theorem op_neD' (rm : Rm X) : OpR X (compareOp .NotEq) (rD X.K CEq fun d e => !PyData.eqv d e) := by
  intro pins s σ H x y v u Q I rx ry h
  obtain ⟨d, e, hd, he, hc, q⟩ := h
  obtain ⟨as, r1⟩ := hd.reads I (noF_plain hc.1) _ rx
  obtain ⟨bs, r2⟩ := he.reads I (noF_plain hc.2.1) _ ry
  have hu := rm.un
  have := hc.2.2
  exact PySem.SeqAt.ne_plain r1 r2 hc.1 hc.2.1 (by omega) ⟨.bl _, H, I, rfl, q⟩
def dEq (d e : D) : Option Rv := if CEq d e then some (db (PyData.eqv d e)) else none
def dNe (d e : D) : Option Rv := if CEq d e then some (db (!PyData.eqv d e)) else none
theorem eqS {K : PySem.W.Frag} : OpS K (rD K CEq PyData.eqv) dEq := dS
theorem neS {K : PySem.W.Frag} : OpS K (rD K CEq fun d e => !PyData.eqv d e) dNe := dS
def CLt (d e : D) : Prop := PySem.W.alike d e = true ∧ d ≠ .none ∧ min d.depth e.depth ≤ 100 ∧ noF d = true ∧ noF e = true
def isNonD : D → Bool
  | .none => true
  | _ => false
theorem isNonD_iff (d : D) : isNonD d = false ↔ d ≠ .none := by cases d <;> simp [isNonD]
instance (d e : D) : Decidable (CLt d e) := decidable_of_iff (PySem.W.alike d e = true ∧ isNonD d = false ∧ min d.depth e.depth ≤ 100 ∧ noF d = true ∧ noF e = true) (by unfold CLt; rw [isNonD_iff])
theorem cmp_any {op : CmpOp} {C : D → D → Prop} {g : D → D → Bool} (nf : ∀ d e, C d e → noF d = true ∧ noF e = true)
    (rule : ∀ (s : Shared) (a b : Value) (d e : D) (as bs : List Addr) (Q : Value → Shared → Prop), Reads s.heap a d as → Reads s.heap b e bs → C d e → Q (.bool (g d e)) s → wpAny (model X.prog X.w) X.A (compareOp op a b) Q X.xe s) : OpR X (compareOp op) (rD X.K C g) := by
  intro pins s σ H x y v u Q I rx ry h
  obtain ⟨d, e, hd, he, hc, q⟩ := h
  obtain ⟨as, r1⟩ := hd.reads I (nf _ _ hc).1 _ rx
  obtain ⟨bs, r2⟩ := he.reads I (nf _ _ hc).2 _ ry
  exact rule s v u d e as bs _ r1 r2 hc ⟨.bl _, H, I, rfl, q⟩
theorem op_ltD (rm : Rm X) : OpR X (compareOp .Lt) (rD X.K CLt fun d e => PySem.W.dataLt d e) := cmp_any (fun _ _ h => h.2.2.2) fun s a b d e as bs Q r1 r2 hc q => by
  have hu := rm.un
  have := hc.2.2.1
  exact PySem.W.lt_data r1 r2 hc.1 hc.2.1 (by omega) q
theorem op_gtD (rm : Rm X) : OpR X (compareOp .Gt) (rD X.K CLt fun d e => PySem.W.dataLt e d) := cmp_any (fun _ _ h => h.2.2.2) fun s a b d e as bs Q r1 r2 hc q => by
  have hu := rm.un
  have := hc.2.2.1
  exact PySem.W.gt_data r1 r2 hc.1 hc.2.1 (by omega) q
theorem op_leD (rm : Rm X) : OpR X (compareOp .LtE) (rD X.K CLt fun d e => !PySem.W.dataLt e d) := cmp_any (fun _ _ h => h.2.2.2) fun s a b d e as bs Q r1 r2 hc q => by
  have hu := rm.un
  have := hc.2.2.1
  exact PySem.W.le_data r1 r2 hc.1 hc.2.1 (by omega) q
theorem op_geD (rm : Rm X) : OpR X (compareOp .GtE) (rD X.K CLt fun d e => !PySem.W.dataLt d e) := cmp_any (fun _ _ h => h.2.2.2) fun s a b d e as bs Q r1 r2 hc q => by
  have hu := rm.un
  have := hc.2.2.1
  exact PySem.W.ge_data r1 r2 hc.1 hc.2.1 (by omega) q
/-- ints by themselves, else alike data -/
def dCmp (f : Int → Int → Bool) (g : D → D → Bool) : D → D → Option Rv
  | .int i, .int j => some (db (f i j))
  | d, e => if CLt d e then some (db (g d e)) else none
theorem cmpS {K : PySem.W.Frag} {f : Int → Int → Bool} {g : D → D → Bool} : OpS K (fun x y H Q => rI0 (fun i j => .bl (f i j)) x y H Q ∨ rD K CLt g x y H Q) (dCmp f g) := by
  intro O cs H x y d e z Q w sx sy h p
  by_cases hi : ∃ i j, d = .int i ∧ e = .int j
  · obtain ⟨i, j, rfl, rfl⟩ := hi
    cases h
    exact .inl ⟨i, j, sx.int, sy.int, post_bool w p⟩
  · have h' : (if CLt d e then some (db (g d e)) else none) = some z := by
      unfold dCmp at h
      split at h
      · exact absurd ⟨_, _, rfl, rfl⟩ hi
      · exact h
    obtain ⟨hc, rfl⟩ := ite_some h'
    exact .inr ⟨d, e, sx.rp, sy.rp, hc, post_bool w p⟩
def dLt := dCmp (fun i j => decide (i < j)) fun d e => PySem.W.dataLt d e
def dGt := dCmp (fun i j => decide (j < i)) fun d e => PySem.W.dataLt e d
def dLe := dCmp (fun i j => decide (i ≤ j)) fun d e => !PySem.W.dataLt e d
def dGe := dCmp (fun i j => decide (j ≤ i)) fun d e => !PySem.W.dataLt d e
theorem xe_lt {a b : Expr} {fa fb : ME} {pos : Pos} (rm : Rm X) (ha : XE X fa a) (hb : XE X fb b) : XE X (mB dLt fa fb) (.Compare a [.Lt] [b] pos) := xe_cmp (OpR.or op_lt (op_ltD rm)) cmpS ha hb
theorem xe_gt {a b : Expr} {fa fb : ME} {pos : Pos} (rm : Rm X) (ha : XE X fa a) (hb : XE X fb b) : XE X (mB dGt fa fb) (.Compare a [.Gt] [b] pos) := xe_cmp (OpR.or op_gt (op_gtD rm)) cmpS ha hb
theorem xe_le {a b : Expr} {fa fb : ME} {pos : Pos} (rm : Rm X) (ha : XE X fa a) (hb : XE X fb b) : XE X (mB dLe fa fb) (.Compare a [.LtE] [b] pos) := xe_cmp (OpR.or op_le (op_leD rm)) cmpS ha hb
theorem xe_ge {a b : Expr} {fa fb : ME} {pos : Pos} (rm : Rm X) (ha : XE X fa a) (hb : XE X fb b) : XE X (mB dGe fa fb) (.Compare a [.GtE] [b] pos) := xe_cmp (OpR.or op_ge (op_geD rm)) cmpS ha hb
theorem xe_eq {a b : Expr} {fa fb : ME} {pos : Pos} (rm : Rm X) (ha : XE X fa a) (hb : XE X fb b) : XE X (mB dEq fa fb) (.Compare a [.Eq] [b] pos) := xe_cmp (op_eqD' rm) eqS ha hb
theorem xe_ne {a b : Expr} {fa fb : ME} {pos : Pos} (rm : Rm X) (ha : XE X fa a) (hb : XE X fb b) : XE X (mB dNe fa fb) (.Compare a [.NotEq] [b] pos) := xe_cmp (op_neD' rm) neS ha hb
theorem xe_add {a b : Expr} {fa fb : ME} {pos : Pos} (ha : XE X fa a) (hb : XE X fb b) : XE X (mB dAdd fa fb) (.BinOp a .Add b pos) := xe_bin op_addD addS ha hb
theorem xe_sub {a b : Expr} {fa fb : ME} {pos : Pos} (ha : XE X fa a) (hb : XE X fb b) : XE X (mB dSub fa fb) (.BinOp a .Sub b pos) := xe_bin op_sub subS ha hb
theorem xe_mod {a b : Expr} {fa fb : ME} {pos : Pos} (ha : XE X fa a) (hb : XE X fb b) : XE X (mB dMod fa fb) (.BinOp a .Mod b pos) := xe_bin op_modN modS ha hb
theorem xe_div {a b : Expr} {fa fb : ME} {pos : Pos} (ha : XE X fa a) (hb : XE X fb b) : XE X (mB dDiv fa fb) (.BinOp a .FloorDiv b pos) := xe_bin op_fdv divS ha hb
theorem xe_pow {a b : Expr} {fa fb : ME} {pos : Pos} (ha : XE X fa a) (hb : XE X fb b) : XE X (mB dPow fa fb) (.BinOp a .Pow b pos) := xe_bin op_pw powS ha hb
/-! in, not in -/
def CIn (d e : D) : Prop := match e with
  | .list xs => PyData.plainAll xs = true ∧ d.plain = true ∧ min (PyData.depthAll xs) d.depth ≤ 100
  | .tuple xs => PyData.plainAll xs = true ∧ d.plain = true ∧ min (PyData.depthAll xs) d.depth ≤ 100
  | .str _ => match d with
    | .str _ => True
    | _ => False
  | _ => False
instance (d e : D) : Decidable (CIn d e) := by
  unfold CIn
  split
  · exact inferInstanceAs (Decidable (_ ∧ _))
  · exact inferInstanceAs (Decidable (_ ∧ _))
  · split
    · exact isTrue trivial
    · exact isFalse not_false
  · exact isFalse not_false
def inD (d e : D) : Bool := match e with
  | .list xs => xs.any fun y => PyData.eqv y d
  | .tuple xs => xs.any fun y => PyData.eqv y d
  | .str y => match d with
    | .str x => !(Builtin.Str.occurrences y x 0 y.length 1).isEmpty
    | _ => false
  | _ => false
theorem op_inD (rm : Rm X) : OpR X (compareOp .In) (rD X.K CIn inD) := by
  intro pins s σ H x y v u Q I rx ry h
  obtain ⟨d, e, hd, he, hc, q⟩ := h
  have hu := rm.un
  cases e with
  | list xs =>
    obtain ⟨as, r1⟩ := hd.reads I (noF_plain hc.2.1) _ rx
    obtain ⟨bs, r2⟩ := he.reads I (noF_plain (d := .list xs) hc.1) _ ry
    have h3 := hc.2.2
    exact PySem.SeqAt.in_list_data r2 r1 hc.1 hc.2.1 (by omega) ⟨.bl _, H, I, rfl, q⟩
  | tuple xs =>
    obtain ⟨as, r1⟩ := hd.reads I (noF_plain hc.2.1) _ rx
    obtain ⟨bs, r2⟩ := he.reads I (noF_plain (d := .tuple xs) hc.1) _ ry
    have h3 := hc.2.2
    exact PySem.SeqAt.in_tuple_data r2 r1 hc.1 hc.2.1 (by omega) ⟨.bl _, H, I, rfl, q⟩
  | str b =>
    cases d with
    | str a =>
      cases hd
      cases he
      exact op_in_str pins s σ H _ _ v u Q I rx ry ⟨a, b, rfl, rfl, q⟩
    | _ => exact hc.elim
  | _ => exact hc.elim
theorem op_ninD (rm : Rm X) : OpR X (compareOp .NotIn) (rD X.K CIn fun d e => !inD d e) := by
  intro pins s σ H x y v u Q I rx ry h
  obtain ⟨d, e, hd, he, hc, q⟩ := h
  have hu := rm.un
  cases e with
  | list xs =>
    obtain ⟨as, r1⟩ := hd.reads I (noF_plain hc.2.1) _ rx
    obtain ⟨bs, r2⟩ := he.reads I (noF_plain (d := .list xs) hc.1) _ ry
    have h3 := hc.2.2
    exact PySem.SeqAt.notIn_list_data r2 r1 hc.1 hc.2.1 (by omega) ⟨.bl _, H, I, rfl, q⟩
  | tuple xs =>
    obtain ⟨as, r1⟩ := hd.reads I (noF_plain hc.2.1) _ rx
    obtain ⟨bs, r2⟩ := he.reads I (noF_plain (d := .tuple xs) hc.1) _ ry
    have h3 := hc.2.2
    exact PySem.SeqAt.notIn_tuple_data r2 r1 hc.1 hc.2.1 (by omega) ⟨.bl _, H, I, rfl, q⟩
  | str b =>
    cases d with
    | str a =>
      cases hd
      cases he
      exact L2.op_notIn_str pins s σ H _ _ v u Q I rx ry ⟨a, b, rfl, rfl, q⟩
    | _ => exact hc.elim
  | _ => exact hc.elim
def dIn (d e : D) : Option Rv := if CIn d e then some (db (inD d e)) else none
def dNotIn (d e : D) : Option Rv := if CIn d e then some (db (!inD d e)) else none
theorem xe_in {a b : Expr} {fa fb : ME} {pos : Pos} (rm : Rm X) (ha : XE X fa a) (hb : XE X fb b) (hm : behindInMarks .In b = false := by rfl) : XE X (mB dIn fa fb) (.Compare a [.In] [b] pos) := xe_cmp (op_inD rm) dS ha hb hm
theorem xe_notin {a b : Expr} {fa fb : ME} {pos : Pos} (rm : Rm X) (ha : XE X fa a) (hb : XE X fb b) (hm : behindInMarks .NotIn b = false := by rfl) : XE X (mB dNotIn fa fb) (.Compare a [.NotIn] [b] pos) := xe_cmp (op_ninD rm) dS ha hb hm
/-! is: with None, True, False -/
def isD (d e : D) : Option Bool := match e with
  | .none => some (match d with
    | .none => true
    | _ => false)
  | .bool b => some (match d with
    | .bool a => a == b
    | _ => false)
  | _ => none
theorem is_bool_gen {M : Model} {A : Around} {E : Value → Shared → Prop} {s : Shared} {Q : Value → Shared → Prop} {v : Value} {b : Bool} (hv : ∀ i, v ≠ .builtin i) (h : Q (.bool (v == .bool b)) s) : wpAny M A (compareOp .Is v (.bool b)) Q E s := by
  cases v <;> first | exact wpAny_pure h | exact absurd rfl (hv _)
theorem isnot_bool_gen {M : Model} {A : Around} {E : Value → Shared → Prop} {s : Shared} {Q : Value → Shared → Prop} {v : Value} {b : Bool} (hv : ∀ i, v ≠ .builtin i) (h : Q (.bool (!(v == .bool b))) s) : wpAny M A (compareOp .IsNot v (.bool b)) Q E s := by
  cases v <;> first | exact wpAny_pure h | exact absurd rfl (hv _)
theorem no_blt {x : V} {v : Value} (r : RelV x v) : ∀ i, v ≠ .builtin i := fun i e => by
  subst e
  cases x with
  | non => cases (show Value.builtin i = .none from r)
  | bl _ => cases (show Value.builtin i = .bool _ from r)
  | int _ => obtain ⟨t, h⟩ := (show ∃ t, Value.builtin i = .int _ t from r); cases h
  | str _ => obtain ⟨t, h⟩ := (show ∃ t, Value.builtin i = .str _ t from r); cases h
  | byt _ => obtain ⟨t, h⟩ := (show ∃ t, Value.builtin i = .bytes _ t from r); cases h
  | flt _ => obtain ⟨t, h⟩ := (show ∃ t, Value.builtin i = .float _ t from r); cases h
  | ref _ => cases (show Value.builtin i = .ref _ from r)
  | ty _ => cases (show Value.builtin i = .type _ from r)
theorem isV {K : PySem.W.Frag} {H : Hp} {x y : V} {v u : Value} {d e : D} {k : Bool} (hd : Rp K H x d) (he : Rp K H y e) (rx : RelV x v) (ry : RelV y u) (h : isD d e = some k) : (v == u) = k ∧ (u = .none ∨ ∃ b, u = .bool b) := by
  cases he with
  | non =>
    cases (show u = .none from ry)
    cases h
    refine ⟨?_, .inl rfl⟩
    rw [rx.none_iff]
    cases hd <;> rfl
  | bl b =>
    cases (show u = .bool b from ry)
    cases h
    refine ⟨?_, .inr ⟨b, rfl⟩⟩
    cases hd with
    | non => cases (show v = .none from rx); rfl
    | bl a => cases (show v = .bool a from rx); cases a <;> cases b <;> rfl
    | int i => obtain ⟨t, rfl⟩ := (show ∃ t, v = .int i t from rx); rfl
    | str i => obtain ⟨t, rfl⟩ := (show ∃ t, v = .str i t from rx); rfl
    | lst _ _ => cases (show v = .ref _ from rx); rfl
    | tup _ _ => cases (show v = .ref _ from rx); rfl
    | dct _ _ _ => cases (show v = .ref _ from rx); rfl
    | fn _ => cases (show v = .ref _ from rx); rfl
  | _ => cases h
def rIs (K : PySem.W.Frag) (f : Bool → Bool) : R2 := fun x y H Q => ∃ d e k, Rp K H x d ∧ Rp K H y e ∧ isD d e = some k ∧ Q (.bl (f k)) H
theorem op_isD : OpR X (compareOp .Is) (rIs X.K id) := by
  intro pins s σ H x y v u Q I rx ry h
  obtain ⟨d, e, k, hd, he, hk, q⟩ := h
  obtain ⟨h1, h2⟩ := isV hd he rx ry hk
  rcases h2 with rfl | ⟨b, rfl⟩
  · exact is_none_gen ⟨.bl _, H, I, by rw [h1]; rfl, q⟩
  · exact is_bool_gen (no_blt rx) ⟨.bl _, H, I, by rw [h1]; rfl, q⟩
theorem op_isnD : OpR X (compareOp .IsNot) (rIs X.K not) := by
  intro pins s σ H x y v u Q I rx ry h
  obtain ⟨d, e, k, hd, he, hk, q⟩ := h
  obtain ⟨h1, h2⟩ := isV hd he rx ry hk
  rcases h2 with rfl | ⟨b, rfl⟩
  · exact isnot_none_gen ⟨.bl _, H, I, by rw [h1]; rfl, q⟩
  · exact isnot_bool_gen (no_blt rx) ⟨.bl _, H, I, by rw [h1]; rfl, q⟩
def dIs (f : Bool → Bool) (d e : D) : Option Rv := (isD d e).map fun k => db (f k)
theorem isS {K : PySem.W.Frag} {f : Bool → Bool} : OpS K (rIs K f) (dIs f) := by
  intro O cs H x y d e z Q w sx sy h p
  obtain ⟨k, hk, rfl⟩ := Option.map_eq_some_iff.mp h
  exact ⟨d, e, k, sx.rp, sy.rp, hk, post_bool w p⟩
theorem xe_is {a b : Expr} {fa fb : ME} {pos : Pos} (ha : XE X fa a) (hb : XE X fb b) : XE X (mB (dIs id) fa fb) (.Compare a [.Is] [b] pos) := xe_cmp op_isD isS ha hb
theorem xe_isnot {a b : Expr} {fa fb : ME} {pos : Pos} (ha : XE X fa a) (hb : XE X fb b) : XE X (mB (dIs not) fa fb) (.Compare a [.IsNot] [b] pos) := xe_cmp op_isnD isS ha hb
/-! not, and, or -/
def dNeg : D → Option Rv
  | .int i => some (di (-i))
  | _ => none
theorem xe_neg {a : Expr} {fa : ME} {pos : Pos} (ha : XE X fa a) : XE X (mU dNeg fa) (.UnaryOp .USub a pos) := xe_un un_neg (fun O cs H x d z Q w sx h p => by
  cases d with
  | int i => cases h; exact ⟨i, sx.int, post_int w p⟩
  | _ => cases h) ha
def dNot (d : D) : Option Rv := (truD d).map fun k => db (!k)
theorem xe_not {a : Expr} {fa : ME} {pos : Pos} (ha : XE X fa a) : XE X (mU dNot fa) (.UnaryOp .Not a pos) :=
  pe_weak (pe_notT ha) fun σ H Q ⟨ρ, O, cs, z, cs', e, en, w, p⟩ => by
    obtain ⟨x, d, h1, h2, h3⟩ := mU_some e
    obtain ⟨k, hk, rfl⟩ := Option.map_eq_some_iff.mp h3
    exact ⟨ρ, O, cs, x, cs', h1, en, w, fun v1 H1 c1 w1 r1 => ⟨k, truD_v (r1.deg.sh w1 h2) hk, post_bool w1 (p.step c1 w1)⟩⟩
def mAnd (fa fb : ME) : ME := fun ρ cs => (fa ρ cs).bind fun p => (rd (deg p.1) p.2).bind fun d => (truD d).bind fun k => if k = true then fb ρ p.2 else some (deg p.1, p.2)
def mOr (fa fb : ME) : ME := fun ρ cs => (fa ρ cs).bind fun p => (rd (deg p.1) p.2).bind fun d => (truD d).bind fun k => if k = true then some (deg p.1, p.2) else fb ρ p.2
theorem ArR.rv {K : PySem.W.Frag} {O : List (Option Addr)} {H H0 : Hp} {cs : Cs} {r : Rv} {v : V} (h : ArR K O r v H) : RvR K O H0 cs r v H := by
  cases r with
  | dat d => exact h
  | own k => exact h
  | fr c => exact h.elim
  | exn nm d => exact h
theorem xe_and {a b : Expr} {rest : List Expr} {fa fb : ME} {pos : Pos} (ha : XE X fa a) (hb : XE X fb (.BoolOp .And (b :: rest) pos)) : XE X (mAnd fa fb) (.BoolOp .And (a :: b :: rest) pos) :=
  pe_weak (pe_andT ha hb) fun σ H Q ⟨ρ, O, cs, z, cs', e, en, w, p⟩ => by
    unfold mAnd at e
    obtain ⟨⟨x, cs1⟩, h1, e⟩ := Option.bind_eq_some_iff.mp e
    obtain ⟨d, h2, e⟩ := Option.bind_eq_some_iff.mp e
    obtain ⟨k, h3, e⟩ := Option.bind_eq_some_iff.mp e
    refine ⟨ρ, O, cs, x, cs1, h1, en, w, fun v1 H1 c1 w1 r1 => ⟨k, truD_v (r1.deg.sh w1 h2) h3, ?_⟩⟩
    cases k with
    | true => exact ⟨ρ, O, cs1, z, cs', e, en.ch c1, w1, p.step c1 w1⟩
    | false =>
      cases e
      exact p v1 H1 c1 w1 (r1.deg.rv)
theorem xe_or {a b : Expr} {rest : List Expr} {fa fb : ME} {pos : Pos} (ha : XE X fa a) (hb : XE X fb (.BoolOp .Or (b :: rest) pos)) : XE X (mOr fa fb) (.BoolOp .Or (a :: b :: rest) pos) :=
  pe_weak (pe_orT ha hb) fun σ H Q ⟨ρ, O, cs, z, cs', e, en, w, p⟩ => by
    unfold mOr at e
    obtain ⟨⟨x, cs1⟩, h1, e⟩ := Option.bind_eq_some_iff.mp e
    obtain ⟨d, h2, e⟩ := Option.bind_eq_some_iff.mp e
    obtain ⟨k, h3, e⟩ := Option.bind_eq_some_iff.mp e
    refine ⟨ρ, O, cs, x, cs1, h1, en, w, fun v1 H1 c1 w1 r1 => ⟨k, truD_v (r1.deg.sh w1 h2) h3, ?_⟩⟩
    cases k with
    | false => exact ⟨ρ, O, cs1, z, cs', e, en.ch c1, w1, p.step c1 w1⟩
    | true =>
      cases e
      exact p v1 H1 c1 w1 (r1.deg.rv)
theorem xe_or1 {a : Expr} {fa : ME} {pos : Pos} (ha : XE X fa a) : XE X fa (.BoolOp .Or [a] pos) := pe_one ha
theorem xe_and1 {a : Expr} {fa : ME} {pos : Pos} (ha : XE X fa a) : XE X fa (.BoolOp .And [a] pos) := pe_one ha
end
end DL
namespace DL
open PySem PySem.Spec PyProof.Rows L2
section
variable {X : Cx}
/-! tests -/
def mTB (f : ME) : MT := fun ρ cs => (f ρ cs).bind fun p => match p.1 with
  | .dat (.bool b) => some (b, p.2)
  | _ => none
theorem mTB_some {f : ME} {ρ : Rho} {cs cs' : Cs} {b : Bool} (h : mTB f ρ cs = some (b, cs')) : f ρ cs = some (db b, cs') := by
  unfold mTB at h
  obtain ⟨⟨x, cs1⟩, h1, h⟩ := Option.bind_eq_some_iff.mp h
  cases x with
  | dat d =>
    cases d with
    | bool c => cases h; exact h1
    | _ => cases h
  | _ => cases h
theorem tTest_of {K : PySem.W.Frag} {f : ME} {t : TE} (h : ∀ σ H Q, tX K f σ H Q → t σ H Q) : ∀ σ H Q, tXT K (mTB f) σ H Q → tTest t σ H Q := fun σ H Q ⟨ρ, O, cs, b, cs', e, en, w, p⟩ =>
  h σ H _ ⟨ρ, O, cs, db b, cs', mTB_some e, en, w, fun v H' c' w' rv => by
    cases (show Rp K (hd O H') v (.bool b) from rv)
    exact ⟨b, rfl, p H' c' w'⟩⟩
theorem xt_cmp {op : CmpOp} {r : R2} {g : D → D → Option Rv} {a b : Expr} {fa fb : ME} {pos : Pos} (ho : OpR X (compareOp op) r) (hs : OpS X.K r g) (ha : XE X fa a) (hb : XE X fb b) (hm : behindInMarks op b = false := by first | exact nobehind _ (by decide) (by decide) | rfl) :
    XT X (mTB (mB g fa fb)) (.Compare a [op] [b] pos) := pt_weak (pt_cmpR ho ha hb hm) (tTest_of fun σ H Q h => tOp_of hs h)
theorem xt_lt {a b : Expr} {fa fb : ME} {pos : Pos} (rm : Rm X) (ha : XE X fa a) (hb : XE X fb b) : XT X (mTB (mB dLt fa fb)) (.Compare a [.Lt] [b] pos) := xt_cmp (OpR.or op_lt (op_ltD rm)) cmpS ha hb
theorem xt_gt {a b : Expr} {fa fb : ME} {pos : Pos} (rm : Rm X) (ha : XE X fa a) (hb : XE X fb b) : XT X (mTB (mB dGt fa fb)) (.Compare a [.Gt] [b] pos) := xt_cmp (OpR.or op_gt (op_gtD rm)) cmpS ha hb
theorem xt_le {a b : Expr} {fa fb : ME} {pos : Pos} (rm : Rm X) (ha : XE X fa a) (hb : XE X fb b) : XT X (mTB (mB dLe fa fb)) (.Compare a [.LtE] [b] pos) := xt_cmp (OpR.or op_le (op_leD rm)) cmpS ha hb
theorem xt_ge {a b : Expr} {fa fb : ME} {pos : Pos} (rm : Rm X) (ha : XE X fa a) (hb : XE X fb b) : XT X (mTB (mB dGe fa fb)) (.Compare a [.GtE] [b] pos) := xt_cmp (OpR.or op_ge (op_geD rm)) cmpS ha hb
theorem xt_eq {a b : Expr} {fa fb : ME} {pos : Pos} (rm : Rm X) (ha : XE X fa a) (hb : XE X fb b) : XT X (mTB (mB dEq fa fb)) (.Compare a [.Eq] [b] pos) := xt_cmp (op_eqD' rm) eqS ha hb
theorem xt_ne {a b : Expr} {fa fb : ME} {pos : Pos} (rm : Rm X) (ha : XE X fa a) (hb : XE X fb b) : XT X (mTB (mB dNe fa fb)) (.Compare a [.NotEq] [b] pos) := xt_cmp (op_neD' rm) neS ha hb
theorem xt_in {a b : Expr} {fa fb : ME} {pos : Pos} (rm : Rm X) (ha : XE X fa a) (hb : XE X fb b) (hm : behindInMarks .In b = false := by rfl) : XT X (mTB (mB dIn fa fb)) (.Compare a [.In] [b] pos) := xt_cmp (op_inD rm) dS ha hb hm
theorem xt_notin {a b : Expr} {fa fb : ME} {pos : Pos} (rm : Rm X) (ha : XE X fa a) (hb : XE X fb b) (hm : behindInMarks .NotIn b = false := by rfl) : XT X (mTB (mB dNotIn fa fb)) (.Compare a [.NotIn] [b] pos) := xt_cmp (op_ninD rm) dS ha hb hm
theorem xt_is {a b : Expr} {fa fb : ME} {pos : Pos} (ha : XE X fa a) (hb : XE X fb b) : XT X (mTB (mB (dIs id) fa fb)) (.Compare a [.Is] [b] pos) := xt_cmp op_isD isS ha hb
theorem xt_isnot {a b : Expr} {fa fb : ME} {pos : Pos} (ha : XE X fa a) (hb : XE X fb b) : XT X (mTB (mB (dIs not) fa fb)) (.Compare a [.IsNot] [b] pos) := xt_cmp op_isnD isS ha hb
def mTNot (f : MT) : MT := fun ρ cs => (f ρ cs).map fun p => (!p.1, p.2)
theorem xt_not {a : Expr} {f : MT} {pos : Pos} (ha : XT X f a) : XT X (mTNot f) (.UnaryOp .Not a pos) :=
  pt_weak (pt_not ha) fun σ H Q ⟨ρ, O, cs, b, cs', e, en, w, p⟩ => by
    obtain ⟨⟨c, cs1⟩, h1, h⟩ := Option.map_eq_some_iff.mp e
    cases h
    exact ⟨ρ, O, cs, c, cs1, h1, en, w, p⟩
def XW (X : Cx) (f : MT) (e : Expr) : Prop := PW X e (tXT X.K f)
theorem pw_weak {e : Expr} {t t' : TT} (h : PW X e t) (w : ∀ σ H Q, t' σ H Q → t σ H Q) : PW X e t' := ⟨fun wh pins s σ H Q I q => h.run wh pins s σ H Q I (w _ _ _ q)⟩
def mTAnd (f g : MT) : MT := fun ρ cs => (f ρ cs).bind fun p => if p.1 = true then g ρ p.2 else some (false, p.2)
def mTOr (f g : MT) : MT := fun ρ cs => (f ρ cs).bind fun p => if p.1 = true then some (true, p.2) else g ρ p.2
theorem xw_and1 {a : Expr} {f : MT} {pos : Pos} (ha : XT X f a) : XW X f (.BoolOp .And [a] pos) := pw_and1 ha
theorem xw_or1 {a : Expr} {f : MT} {pos : Pos} (ha : XT X f a) : XW X f (.BoolOp .Or [a] pos) := pw_or1 ha
theorem xw_and {a b : Expr} {rest : List Expr} {f g : MT} {pos : Pos} (ha : XT X f a) (hb : XW X g (.BoolOp .And (b :: rest) pos)) : XW X (mTAnd f g) (.BoolOp .And (a :: b :: rest) pos) :=
  pw_weak (pw_and ha hb) fun σ H Q ⟨ρ, O, cs, b, cs', e, en, w, p⟩ => by
    obtain ⟨⟨c, cs1⟩, h1, h⟩ := Option.bind_eq_some_iff.mp e
    refine ⟨ρ, O, cs, c, cs1, h1, en, w, fun H1 c1 w1 => ?_⟩
    cases c with
    | true => exact ⟨ρ, O, cs1, b, cs', h, en.ch c1, w1, p.step c1⟩
    | false => cases h; exact p H1 c1 w1
theorem xw_or {a b : Expr} {rest : List Expr} {f g : MT} {pos : Pos} (ha : XT X f a) (hb : XW X g (.BoolOp .Or (b :: rest) pos)) : XW X (mTOr f g) (.BoolOp .Or (a :: b :: rest) pos) :=
  pw_weak (pw_or ha hb) fun σ H Q ⟨ρ, O, cs, b, cs', e, en, w, p⟩ => by
    obtain ⟨⟨c, cs1⟩, h1, h⟩ := Option.bind_eq_some_iff.mp e
    refine ⟨ρ, O, cs, c, cs1, h1, en, w, fun H1 c1 w1 => ?_⟩
    cases c with
    | false => exact ⟨ρ, O, cs1, b, cs', h, en.ch c1, w1, p.step c1⟩
    | true => cases h; exact p H1 c1 w1
theorem xt_w {a : Expr} {f : MT} (h : XW X f a) : XT X f a := PW.pt h
def mIf (c : MT) (fa fb : ME) : ME := fun ρ cs => (c ρ cs).bind fun p => if p.1 = true then fa ρ p.2 else fb ρ p.2
theorem xe_if {c a b : Expr} {f : MT} {fa fb : ME} {pos : Pos} (hc : XT X f c) (ha : XE X fa a) (hb : XE X fb b) : XE X (mIf f fa fb) (.IfExp c a b pos) :=
  pe_weak (pe_ifExp hc ha hb) fun σ H Q ⟨ρ, O, cs, z, cs', e, en, w, p⟩ => by
    obtain ⟨⟨k, cs1⟩, h1, h⟩ := Option.bind_eq_some_iff.mp e
    refine ⟨ρ, O, cs, k, cs1, h1, en, w, fun H1 c1 w1 => ?_⟩
    cases k with
    | true => exact ⟨ρ, O, cs1, z, cs', h, en.ch c1, w1, p.step c1 w1⟩
    | false => exact ⟨ρ, O, cs1, z, cs', h, en.ch c1, w1, p.step c1 w1⟩
/-! a chain of two comparisons: of ints alone -/
def intOf : Rv → Option Int
  | .dat (.int i) => some i
  | _ => none
theorem intOf_some {r : Rv} {i : Int} (h : intOf r = some i) : r = di i := by
  cases r with
  | dat d =>
    cases d with
    | int j => cases h; rfl
    | _ => cases h
  | _ => cases h
def mChain (g g' : Int → Int → Bool) (fa fb fc : ME) : ME := fun ρ cs => (fa ρ cs).bind fun p => (fb ρ p.2).bind fun q => (intOf p.1).bind fun i => (intOf q.1).bind fun j =>
  if g i j = true then (fc ρ q.2).bind fun r => (intOf r.1).bind fun k => some (db (g' j k), r.2) else some (db false, q.2)
theorem tChain_of {K : PySem.W.Frag} {g g' : Int → Int → Bool} {fa fb fc : ME} {σ : L2.St} {H : Hp} {Q : VK} (h : tX K (mChain g g' fa fb fc) σ H Q) :
    tChain (rI0 fun i j => .bl (g i j)) (rI0 fun i j => .bl (g' i j)) (tX K fa) (tX K fb) (tX K fc) σ H Q := by
  obtain ⟨ρ, O, cs, z, cs', e, en, w, p⟩ := h
  unfold mChain at e
  obtain ⟨⟨x, cs1⟩, h1, e1⟩ := Option.bind_eq_some_iff.mp e
  clear e
  obtain ⟨⟨y, cs2⟩, h2, e2⟩ := Option.bind_eq_some_iff.mp e1
  clear e1
  obtain ⟨i, hi, e3⟩ := Option.bind_eq_some_iff.mp e2
  clear e2
  obtain ⟨j, hj, e4⟩ := Option.bind_eq_some_iff.mp e3
  clear e3
  obtain rfl : x = di i := intOf_some hi
  obtain rfl : y = di j := intOf_some hj
  refine ⟨ρ, O, cs, _, cs1, h1, en, w, fun v1 H1 c1 w1 r1 => ?_⟩
  refine ⟨ρ, O, cs1, _, cs2, h2, en.ch c1, w1, fun v2 H2 c2 w2 r2 => ?_⟩
  cases (show Rp K (hd O H1) v1 (.int i) from r1)
  cases (show Rp K (hd O H2) v2 (.int j) from r2)
  refine ⟨i, j, rfl, rfl, g i j, rfl, ?_⟩
  by_cases hg : g i j = true
  · rw [if_pos hg] at e4 ⊢
    obtain ⟨⟨r, cs3⟩, h3, e5⟩ := Option.bind_eq_some_iff.mp e4
    clear e4
    obtain ⟨k, hk, e6⟩ := Option.bind_eq_some_iff.mp e5
    clear e5
    obtain rfl : r = di k := intOf_some hk
    cases e6
    refine ⟨ρ, O, cs2, _, cs3, h3, en.ch (c1.trans c2), w2, fun v3 H3 c3 w3 r3 => ?_⟩
    cases (show Rp K (hd O H3) v3 (.int k) from r3)
    exact ⟨j, k, rfl, rfl, post_bool w3 (p.step ((c1.trans c2).trans c3) w3)⟩
  · rw [if_neg hg] at e4 ⊢
    cases e4
    exact post_bool w2 (p.step (c1.trans c2) w2)
theorem xe_chain {op op' : CmpOp} {g g' : Int → Int → Bool} {a b c : Expr} {fa fb fc : ME} {pos : Pos} (ho : OpR X (compareOp op) (rI0 fun i j => .bl (g i j))) (ho' : OpR X (compareOp op') (rI0 fun i j => .bl (g' i j))) (ha : XE X fa a) (hb : XE X fb b) (hc : XE X fc c)
    (hm : lastMarks [op, op'] [b, c] = false := by with_unfolding_all rfl) : XE X (mChain g g' fa fb fc) (.Compare a [op, op'] [b, c] pos) := pe_weak (pe_chain ho ho' ha hb hc hm) fun σ H Q h => tChain_of h
theorem xt_chain {op op' : CmpOp} {g g' : Int → Int → Bool} {a b c : Expr} {fa fb fc : ME} {pos : Pos} (ho : OpR X (compareOp op) (rI0 fun i j => .bl (g i j))) (ho' : OpR X (compareOp op') (rI0 fun i j => .bl (g' i j))) (ha : XE X fa a) (hb : XE X fb b) (hc : XE X fc c)
    (hm : lastMarks [op, op'] [b, c] = false := by with_unfolding_all rfl) : XT X (mTB (mChain g g' fa fb fc)) (.Compare a [op, op'] [b, c] pos) := pt_weak (pt_chain ho ho' ha hb hc hm) (tTest_of fun σ H Q h => tChain_of h)

/-! * -/
def rMlD : R2 := fun x y H Q => rI CMl (fun i j => .int (i * j)) x y H Q ∨ rMlS x y H Q
theorem mul_len (z : Str) (k : Int) (h : 0 ≤ k) : (Txt.mul z k).length ≤ z.length * k.toNat := by
  unfold Txt.mul
  split
  · exact Nat.zero_le _
  · split
    · rename_i h1 h2
      rcases (by simpa using h2 : k = 1 ∨ z.length = 0) with e | e
      · subst e; simp
      · rw [e]; simp
    · rename_i h1 h2
      generalize k.toNat = m
      have : ∀ (m : Nat) (acc : Array Nat), ((List.replicate m z.cps).foldl (· ++ ·) acc).size = acc.size + z.cps.size * m := by
        intro m
        induction m with
        | zero => intro acc; simp
        | succ m ih => intro acc; rw [List.replicate_succ, List.foldl_cons, ih, Array.size_append, Nat.mul_succ]; omega
      show ((List.replicate m z.cps).foldl (· ++ ·) #[]).size ≤ z.cps.size * m
      rw [this]; simp
/-- list * int -/
theorem op_repR : OpR X (binaryOp .Mult) (fun x y H Q => ∃ l k xs, x = .ref l ∧ y = .int k ∧ H l = some (.lst xs) ∧ -(2 ^ 63) ≤ k ∧ k < 2 ^ 63 ∧ xs.length * k.toNat ≤ sizeLine ∧
  ∀ p, H p = none → Q (.ref p) (upd H p (.lst (List.replicate k.toNat xs).flatten))) := op_rep
end
end DL
namespace DL
open PySem PySem.Spec PyProof.Rows L2
section
variable {X : Cx}
/-! * -/
def rRpL (K : PySem.W.Frag) : R2 := fun x y H Q => ∃ l k xs, x = .ref l ∧ y = .int k ∧ LstAt K H l xs ∧ 0 ≤ k ∧ k < 2 ^ 31 ∧ xs.length * k.toNat ≤ sizeLine ∧ ∀ p, H p = none → Q (.ref p) (upd H p (.lst (List.replicate k.toNat xs).flatten))
theorem rep_fold (its : List Value) (m : Nat) : (List.replicate (if its.toArray.isEmpty = true then 0 else m) its.toArray).foldl (fun a b => a ++ b) #[] = (List.replicate m its).flatten.toArray := by
  have f0 : ∀ k : Nat, (List.replicate k its.toArray).foldl (fun a b => a ++ b) #[] = (List.replicate k its).flatten.toArray := fun k => by
    have := foldl_rep its k []
    simpa using this
  cases its with
  | nil => rw [f0]; simp
  | cons a r =>
    rw [if_neg (by simp)]
    exact f0 m
theorem op_rpL : OpR X (binaryOp .Mult) (rRpL X.K) := by
  intro pins s σ H x y v u Q I rx ry h
  obtain ⟨l, k, xs, rfl, rfl, hr, k0, k1, hz, q⟩ := h
  obtain ⟨hw, its, n, r, e⟩ := lst_rd I hr
  have hv : v = Value.ref l := rx
  subst hv
  obtain ⟨t, ht⟩ := (show ∃ t, u = Value.int k t from ry)
  subst ht
  have hlen := r.length
  have c1 : its.toArray.size * k.toNat ≤ sizeLine := by rw [List.size_toArray, ← hlen]; exact hz
  have c2 : ¬ its.toArray.size * k.toNat > (2 ^ 63 - 1) / 8 := by
    have : (sizeLine : Nat) ≤ (2 ^ 63 - 1) / 8 := by rw [sizeLine_eq]; decide
    omega
  have c3 : ¬ (!Builtin.List.listFitsIndex k) = true := by
    rw [fitsIndex_both (by omega) (by omega)]
    simp
  have c4 : ¬ Builtin.List.listTooLong (its.toArray.size * k.toNat) = true := by
    rw [notLongL c1]
    simp
  have st : s.TypeIs (.ref l) "list" := ⟨_, e, rfl⟩
  refine wpAny_binaryOp_repeat_ref (T := "list") (U := "int") (by decide) st (fun s' => typeIs_int s' k t) noFill_list_mul F.fills_int_mul F.slot_int_rmul repeat_list F.slot_int_index.lookup ?_
  refine call_meets F.slot_int_rmul (typeIs_int s k t) F.entry_int_rmul (F.args_int_rmul_2 _ _) (int___rmul___int_list k t l its.toArray n) ⟨e, rfl, st, ?_⟩
  refine call_meets F.slot_list_mul st F.entry_list_mul (F.args_list_mul_2 _ _) (AutoListH.list___mul___list_int_3 l its.toArray n k t c3 c2 c4) ⟨e, ?_⟩
  rw [rep_fold]
  refine ⟨.ref _, _, I.lnew (t' := s.toks) (r.rep k.toNat) ?_, rfl, q _ I.fresh⟩
  rw [PyProof.Rows.lm_len_rep_flat, Nat.mul_comm]
  exact hz
theorem RpAll.rep {K : PySem.W.Frag} {H : Hp} {vs : List V} {ds : List D} (h : RpAll K H vs ds) : ∀ k : Nat, RpAll K H (List.replicate k vs).flatten (List.replicate k ds).flatten
  | 0 => .nil
  | k + 1 => by
    rw [List.replicate_succ, List.replicate_succ, List.flatten_cons, List.flatten_cons]
    exact h.append (RpAll.rep h k)
def dMul : D → D → Option Rv
  | .int i, .int j => if CMl i j then some (di (i * j)) else none
  | .str z, .int k => if 0 ≤ k ∧ k < 2 ^ 31 ∧ z.length * k.toNat ≤ 16777216 then some (.dat (.str (Txt.mul z k))) else none
  | .list ds, .int k => if 0 ≤ k ∧ k < 2 ^ 31 ∧ ds.length * k.toNat ≤ sizeLine then some (.fr (List.replicate k.toNat ds).flatten) else none
  | _, _ => none
def rMulD (K : PySem.W.Frag) : R2 := fun x y H Q => rI CMl (fun i j => .int (i * j)) x y H Q ∨ rMlS x y H Q ∨ rRpL K x y H Q
theorem op_mulD : OpR X (binaryOp .Mult) (rMulD X.K) := OpR.or op_ml (OpR.or op_mlS op_rpL)
theorem mulS {K : PySem.W.Frag} : OpS K (rMulD K) dMul := by
  intro O cs H x y d e z Q w sx sy g p
  cases d with
  | int i =>
    cases e with
    | int j =>
      obtain ⟨hz, rfl⟩ := ite_some g
      exact .inl ⟨i, j, sx.int, sy.int, hz, post_int w p⟩
    | _ => cases g
  | str i =>
    cases e with
    | int k =>
      obtain ⟨rfl, h1⟩ := sx.str
      obtain ⟨hz, rfl⟩ := ite_some g
      refine .inr (.inl ⟨i, k, rfl, sy.int, hz.1, hz.2.1, hz.2.2, post_str w ?_ p⟩)
      exact Nat.le_trans (mul_len i k hz.1) (by rw [sizeLine_eq]; exact hz.2.2)
    | _ => cases g
  | list ds =>
    cases e with
    | int k =>
      obtain ⟨a, vs, rfl, q1, r1⟩ := sx.list
      obtain ⟨hz, rfl⟩ := ite_some g
      exact .inr (.inr ⟨a, k, vs, rfl, sy.int, q1, hz.1, hz.2.1, by rw [r1.length]; exact hz.2.2, post_list w (r1.rep _) p⟩)
    | _ => cases g
  | _ => cases g
theorem xe_mul {a b : Expr} {fa fb : ME} {pos : Pos} (ha : XE X fa a) (hb : XE X fb b) : XE X (mB dMul fa fb) (.BinOp a .Mult b pos) := xe_bin op_mulD mulS ha hb

/-! len -/
def dLen : List D → Option Rv
  | [.list ds] => some (di ds.length)
  | [.tuple ds] => some (di ds.length)
  | [.str x] => some (di x.length)
  | _ => none
theorem Paired.one {α β : Type} {R : α → β → Prop} {xs : List α} {y : β} (h : Paired R xs [y]) : ∃ x, xs = [x] ∧ R x y := by
  cases h with
  | cons a t => cases t; exact ⟨_, rfl, a⟩
theorem Paired.two {α β : Type} {R : α → β → Prop} {xs : List α} {y z : β} (h : Paired R xs [y, z]) : ∃ x x', xs = [x, x'] ∧ R x y ∧ R x' z := by
  cases h with
  | cons a t =>
    cases t with
    | cons b t => cases t; exact ⟨_, _, rfl, a, b⟩
theorem lenS {K : PySem.W.Frag} : CaS K (fun xs H Q => ∃ x n, xs = [x] ∧ LenV K x H n ∧ Q (.int n) H) dLen := by
  intro O cs H vs ds z Q w hp g p
  cases ds with
  | nil => cases g
  | cons d r =>
    cases r with
    | cons _ _ => cases d <;> cases g
    | nil =>
      obtain ⟨x, rfl, sx⟩ := Paired.one hp
      cases d with
      | list ds =>
        cases g
        obtain ⟨a, vs, rfl, q1, r1⟩ := sx.list
        exact ⟨_, _, rfl, .inl ⟨vs, q1.sq, rfl⟩, by rw [r1.length]; exact post_int w p⟩
      | tuple ds =>
        cases g
        obtain ⟨a, vs, rfl, q1, r1⟩ := sx.tuple
        exact ⟨_, _, rfl, .inr ⟨vs, q1, rfl⟩, by rw [r1.length]; exact post_int w p⟩
      | str y =>
        cases g
        obtain ⟨rfl, hz⟩ := sx.str
        exact ⟨_, _, rfl, ⟨hz, rfl⟩, post_int w p⟩
      | _ => cases g
theorem xe_len {e : Expr} {fa : MA} {p pos : Pos} (hg : Gl X "len") (hm : X.mg "len" = none) (ha : XA X fa [e]) (he : starEach [e] X.env = (false, eval e X.env) :: starEach [] X.env := by rfl) : XE X (mCall dLen fa) (.Call (.Name "len" p) [e] [] pos) :=
  xe_callB call_len lenS hg hm boot_len ha (he := he)

/-! items -/
def dIx (d e : D) : Option Rv := match e with
  | .int i => match d with
    | .list ds => (atI ds i).map .dat
    | .tuple ds => (atI ds i).map .dat
    | .str x => (atI x.cps.toList i).map fun c => .dat (.str ⟨#[c]⟩)
    | _ => none
  | _ => none
theorem atI_rp {K : PySem.W.Frag} {H : Hp} {vs : List V} {ds : List D} (r : RpAll K H vs ds) {i : Int} {d : D} (h : atI ds i = some d) : ∃ v, atI vs i = some v ∧ Rp K H v d := by
  unfold atI at h ⊢
  obtain ⟨j, h1, h2⟩ := Option.bind_eq_some_iff.mp h
  obtain ⟨v, h3, h4⟩ := r.get h2
  exact ⟨v, by rw [r.length, h1]; exact h3, h4⟩
theorem one_sign (c : Nat) : (⟨#[c]⟩ : Str).length ≤ sizeLine := by
  show 1 ≤ sizeLine
  rw [sizeLine_eq]; decide
theorem ixS {K : PySem.W.Frag} : OpS K (rIx K) dIx := by
  intro O cs H x y d e z Q w sx sy g p
  cases e with
  | int i =>
    cases d with
    | list ds =>
      obtain ⟨d, hd, rfl⟩ := Option.map_eq_some_iff.mp g
      obtain ⟨a, vs, rfl, q1, r1⟩ := sx.list
      obtain ⟨v, h1, h2⟩ := atI_rp r1 hd
      exact .inl ⟨a, vs, i, v, rfl, sy.int, q1.sq, h1, post_val w h2 p⟩
    | tuple ds =>
      obtain ⟨d, hd, rfl⟩ := Option.map_eq_some_iff.mp g
      obtain ⟨a, vs, rfl, q1, r1⟩ := sx.tuple
      obtain ⟨v, h1, h2⟩ := atI_rp r1 hd
      exact .inr (.inl ⟨a, vs, i, v, rfl, sy.int, q1, h1, post_val w h2 p⟩)
    | str t =>
      obtain ⟨c, hc, rfl⟩ := Option.map_eq_some_iff.mp g
      obtain ⟨rfl, hz⟩ := sx.str
      exact .inr (.inr ⟨t, i, c, rfl, sy.int, hz, hc, post_str w (one_sign c) p⟩)
    | _ => cases g
  | _ => cases d <;> cases g
theorem xe_item {a b : Expr} {fa fb : ME} {pos : Pos} (ha : XE X fa a) (hb : XE X fb b) (hp : PlainIx b := by exact fun _ _ => rfl) : XE X (mB dIx fa fb) (.Subscript a b pos) := xe_ix ix_seq ixS ha hb hp

/-! slices -/
abbrev MO := Rho → Cs → Option (Option Int × Cs)
def tXO (K : PySem.W.Frag) (f : MO) : TO := fun σ H Q => ∃ ρ O cs o cs', f ρ cs = some (o, cs') ∧ EnvOk K O H ρ σ ∧ Wd K O cs H ∧ Pst K O H cs' (Q o)
def XO (X : Cx) (f : MO) (e : Option Expr) : Prop := PO X e (tXO X.K f)
def oNone : MO := fun _ cs => some (none, cs)
def oSome (f : ME) : MO := fun ρ cs => (f ρ cs).bind fun p => (intOf p.1).map fun i => (some i, p.2)
theorem po_weak {e : Option Expr} {t t' : TO} (h : PO X e t) (w : ∀ σ H Q, t' σ H Q → t σ H Q) : PO X e t' := ⟨fun pins s σ H Q I q => h.run pins s σ H Q I (w _ _ _ q)⟩
theorem xo_none : XO X oNone none := po_weak po_none fun σ H Q ⟨ρ, O, cs, o, cs', e, en, w, p⟩ => by
  cases e
  exact p H .refl w
theorem xo_some {e : Expr} {f : ME} (h : XE X f e) : XO X (oSome f) (some e) := po_weak (po_some h) fun σ H Q ⟨ρ, O, cs, o, cs', e, en, w, p⟩ => by
  obtain ⟨⟨r, cs1⟩, h1, e⟩ := Option.bind_eq_some_iff.mp e
  obtain ⟨i, h2, e⟩ := Option.map_eq_some_iff.mp e
  cases e
  obtain rfl : r = di i := intOf_some h2
  refine ⟨ρ, O, cs, _, cs1, h1, en, w, fun v H' c' w' rv => ?_⟩
  cases (show Rp X.K (hd O H') v (.int i) from rv)
  exact ⟨i, rfl, p H' c' w'⟩
def cutD (ds : List D) (lo hi : Option Int) : List D := (ds.drop (HT.sIx ds.length 0 lo)).take (HT.sIx ds.length ds.length hi - HT.sIx ds.length 0 lo)
def dSl (d : D) (lo hi : Option Int) : Option Rv := match d with
  | .list ds => some (.fr (cutD ds lo hi))
  | .tuple ds => some (.dat (.tuple (cutD ds lo hi)))
  | .str x => some (.dat (.str (cutS x lo hi)))
  | _ => none
def rSlD (K : PySem.W.Frag) : V → Option Int → Option Int → Hp → VK → Prop := fun x lo hi H Q => rSlL K x lo hi H Q ∨ rSlA K x lo hi H Q ∨ rSlS x lo hi H Q
theorem sl_D : SlR X (rSlD X.K) := SlR.or sl_list (SlR.or sl_tupA sl_str)
theorem cut_rp {K : PySem.W.Frag} {H : Hp} {vs : List V} {ds : List D} (r : RpAll K H vs ds) (lo hi : Option Int) : RpAll K H (cutV vs lo hi) (cutD ds lo hi) := by
  unfold cutV cutD
  rw [r.length]
  exact (r.drop _).take _
def mSl (f : ME) (lo hi : MO) : ME := fun ρ cs => (f ρ cs).bind fun p => (lo ρ p.2).bind fun l => (hi ρ l.2).bind fun u => (rd (deg p.1) u.2).bind fun d => (dSl d l.1 u.1).map fun z => (z, u.2)
theorem xe_slice {e : Expr} {lo hi : Option Expr} {f : ME} {fl fh : MO} {p2 pos : Pos} (he : XE X f e) (hl : XO X fl lo) (hh : XO X fh hi) : XE X (mSl f fl fh) (.Subscript e (.Slice lo hi none p2) pos) :=
  pe_weak (pe_slice sl_D he hl hh) fun σ H Q ⟨ρ, O, cs, z, cs', e0, en, w, p⟩ => by
    obtain ⟨⟨x, cs1⟩, h1, e1⟩ := Option.bind_eq_some_iff.mp e0
    obtain ⟨⟨l, cs2⟩, h2, e2⟩ := Option.bind_eq_some_iff.mp e1
    obtain ⟨⟨u, cs3⟩, h3, e3⟩ := Option.bind_eq_some_iff.mp e2
    obtain ⟨d, h4, e4⟩ := Option.bind_eq_some_iff.mp e3
    obtain ⟨z', h5, e5⟩ := Option.map_eq_some_iff.mp e4
    clear e0 e1 e2 e3 e4
    cases e5
    refine ⟨ρ, O, cs, x, cs1, h1, en, w, fun v1 H1 c1 w1 r1 => ?_⟩
    refine ⟨ρ, O, cs1, l, cs2, h2, en.ch c1, w1, fun H2 c2 w2 => ?_⟩
    refine ⟨ρ, O, cs2, u, cs3, h3, en.ch (c1.trans c2), w2, fun H3 c3 w3 => ?_⟩
    have sx := ((r1.deg.ch c2).ch c3).sh w3 h4
    have p' := p.step ((c1.trans c2).trans c3) w3
    cases d with
    | list ds =>
      cases h5
      obtain ⟨a, vs, rfl, q1, r⟩ := sx.list
      exact .inl ⟨a, vs, rfl, q1.sq, post_list w3 (cut_rp r _ _) p'⟩
    | tuple ds =>
      cases h5
      have sx' := sx
      obtain ⟨a, vs, rfl, q1, r⟩ := sx.tuple
      refine .inr (.inl ⟨a, vs, rfl, q1, fun hw => ?_, fun _ => post_tup w3 (cut_rp r _ _) p'⟩)
      have : cutD ds l u = ds := by
        unfold cutD
        rw [← r.length, hw.1, hw.2]
        simp [r.length]
      rw [this] at p'
      rcases sx' with sx' | ⟨_, _, _, _, h, _⟩
      · exact post_val w3 sx' p'
      · cases h
    | str y =>
      cases h5
      obtain ⟨rfl, hz⟩ := sx.str
      exact .inr (.inr ⟨y, rfl, hz, post_str w3 (Nat.le_trans (cutS_length y _ _) hz) p'⟩)
    | _ => cases h5
/-- xs[::-1] -/
def dRev : D → Option Rv
  | .list ds => some (.fr ds.reverse)
  | _ => none
theorem xe_rev {e : Expr} {f : ME} {k : Nat} {p1 p2 p3 pos : Pos} (he : XE X f e) : XE X (mU dRev f) (.Subscript e (.Slice none none (some (.UnaryOp .USub (.Constant (.int 1) k p1) p2)) p3) pos) :=
  pe_weak (pe_revL he) fun σ H Q ⟨ρ, O, cs, z, cs', e0, en, w, p⟩ => by
    obtain ⟨x, d, h1, h2, h3⟩ := mU_some e0
    refine ⟨ρ, O, cs, x, cs', h1, en, w, fun v1 H1 c1 w1 r1 => ?_⟩
    cases d with
    | list ds =>
      cases h3
      obtain ⟨a, vs, rfl, q1, r⟩ := (r1.deg.sh w1 h2).list
      exact ⟨a, vs, rfl, q1.sq, post_list w1 r.reverse (p.step c1 w1)⟩
    | _ => cases h3
end
end DL
namespace DL
open PySem PySem.Spec PyProof.Rows L2

/-! ### statements -/
inductive Out where
  | nx (ρ : Rho) (cs : Cs)
  | rt (r : Rv) (cs : Cs)
  | bk (ρ : Rho) (cs : Cs)
  | ct (ρ : Rho) (cs : Cs)
/-- the first argument: how many cells there were at the def's entry -/
abbrev MS := Nat → Rho → Cs → Option Out
structure Ext (n0 : Nat) (O O' : List (Option Addr)) (H : Hp) : Prop where
  pre : ∀ i, i < n0 → O'[i]? = O[i]?
  sub : ∀ a, a ∈ live O' → a ∈ live O ∨ H a = none
theorem Ext.refl {n0 : Nat} {O : List (Option Addr)} {H : Hp} : Ext n0 O O H := ⟨fun _ _ => rfl, fun _ h => .inl h⟩
theorem Ext.trans {n0 : Nat} {O O1 O2 : List (Option Addr)} {H H1 : Hp} {K : PySem.W.Frag} {cs : Cs} (w : Wd K O cs H) {cs1 : Cs} (w1 : Wd K O1 cs1 H1) (a : Ext n0 O O1 H) (c : Ch O H H1) (b : Ext n0 O1 O2 H1) : Ext n0 O O2 H := by
  refine ⟨fun i hi => (b.pre i hi).trans (a.pre i hi), fun x hx => ?_⟩
  rcases b.sub x hx with h | h
  · exact a.sub x h
  · by_cases hl : x ∈ live O
    · exact .inl hl
    · refine .inr ?_
      cases q : H x with
      | none => rfl
      | some o =>
        have := c x o hl q
        rw [h] at this; cases this
theorem Ch.ext {n0 : Nat} {O O1 : List (Option Addr)} {H H1 H2 : Hp} (a : Ch O H H1) (e : Ext n0 O O1 H) (b : Ch O1 H1 H2) : Ch O H H2 := fun x o n h => by
  refine b x o (fun z => ?_) (a x o n h)
  rcases e.sub x z with q | q
  · exact n q
  · rw [h] at q; cases q
/-- the data's heap grows -/
def Sub (O : List (Option Addr)) (H : Hp) (O' : List (Option Addr)) (H' : Hp) : Prop := ∀ a o, hd O H a = some o → hd O' H' a = some o
theorem Sub.of {n0 : Nat} {O O' : List (Option Addr)} {H H' : Hp} (e : Ext n0 O O' H) (c : Ch O H H') : Sub O H O' H' := fun a o h => by
  obtain ⟨n, q⟩ := hd_some h
  refine hd_of (fun z => ?_) (c a o n q)
  rcases e.sub a z with r | r
  · exact n r
  · rw [q] at r; cases r
theorem Sub.trans {O O1 O2 : List (Option Addr)} {H H1 H2 : Hp} (a : Sub O H O1 H1) (b : Sub O1 H1 O2 H2) : Sub O H O2 H2 := fun x o h => b x o (a x o h)
def PostS (K : PySem.W.Frag) (n0 : Nat) (O : List (Option Addr)) (H : Hp) (out : Out) (D : Ends) : Prop :=
  match out with
  | .nx ρ' cs' => ∀ σ' O' H', Ext n0 O O' H → Ch O H H' → EnvOk K O' H' ρ' σ' → Wd K O' cs' H' → D.nx σ' H'
  | .rt r cs' => ∀ v O' H', Ext n0 O O' H → Ch O H H' → Wd K O' cs' H' → ArR K O' r v H' → D.rt v H'
  | .bk ρ' cs' => ∀ σ' O' H', Ext n0 O O' H → Ch O H H' → EnvOk K O' H' ρ' σ' → Wd K O' cs' H' → D.bk σ' H'
  | .ct ρ' cs' => ∀ σ' O' H', Ext n0 O O' H → Ch O H H' → EnvOk K O' H' ρ' σ' → Wd K O' cs' H' → D.ct σ' H'
def tS (K : PySem.W.Frag) (g : MS) : TS := fun D σ H => ∃ n0 ρ O cs out, g n0 ρ cs = some out ∧ n0 ≤ O.length ∧ EnvOk K O H ρ σ ∧ Wd K O cs H ∧ PostS K n0 O H out D
def XS (X : Cx) (g : MS) (st : Stmt) : Prop := PS X st (tS X.K g)
def XSs (X : Cx) (g : MS) (st : List Stmt) : Prop := PSs X st (tS X.K g)
theorem pss_weak {X : Cx} {e : List Stmt} {t t' : TS} (h : PSs X e t) (w : ∀ D σ H, t' D σ H → t D σ H) : PSs X e t' := ⟨fun pins s σ H D I q => h.run pins s σ H D I (w _ _ _ q)⟩
/-- a post goes on from a later state -/
theorem PostS.step {K : PySem.W.Frag} {n0 : Nat} {O O1 : List (Option Addr)} {H H1 : Hp} {out : Out} {D : Ends} {cs cs1 : Cs} (h : PostS K n0 O H out D) (w : Wd K O cs H) (w1 : Wd K O1 cs1 H1) (e : Ext n0 O O1 H) (c : Ch O H H1) : PostS K n0 O1 H1 out D := by
  cases out with
  | nx ρ' cs' => exact fun σ' O' H' e' c' en' w' => h σ' O' H' (e.trans w w1 c e') (c.ext e c') en' w'
  | rt r cs' => exact fun v O' H' e' c' w' r' => h v O' H' (e.trans w w1 c e') (c.ext e c') w' r'
  | bk ρ' cs' => exact fun σ' O' H' e' c' en' w' => h σ' O' H' (e.trans w w1 c e') (c.ext e c') en' w'
  | ct ρ' cs' => exact fun σ' O' H' e' c' en' w' => h σ' O' H' (e.trans w w1 c e') (c.ext e c') en' w'
theorem PostS.ends {K : PySem.W.Frag} {n0 : Nat} {O : List (Option Addr)} {H : Hp} {out : Out} {D D' : Ends} (h : PostS K n0 O H out D) (a : D'.rt = D.rt) (b : D'.bk = D.bk) (c : D'.ct = D.ct) (hn : ∀ ρ cs, out ≠ .nx ρ cs) : PostS K n0 O H out D' := by
  cases out with
  | nx ρ' cs' => exact absurd rfl (hn _ _)
  | rt r cs' => show ∀ v O' H', _ → _ → _ → _ → D'.rt v H'; rw [a]; exact h
  | bk ρ' cs' => show ∀ v O' H', _ → _ → _ → _ → D'.bk v H'; rw [b]; exact h
  | ct ρ' cs' => show ∀ v O' H', _ → _ → _ → _ → D'.ct v H'; rw [c]; exact h

section
variable {X : Cx}
def sNil : MS := fun _ ρ cs => some (.nx ρ cs)
def sSeq (f g : MS) : MS := fun n0 ρ cs => (f n0 ρ cs).bind fun o => match o with
  | .nx ρ1 cs1 => g n0 ρ1 cs1
  | o => some o
theorem Wd.lenO {K : PySem.W.Frag} {O : List (Option Addr)} {cs : Cs} {H : Hp} (w : Wd K O cs H) : O.length = cs.length := w.len.symm
theorem Ext.len {n0 : Nat} {O O' : List (Option Addr)} {H : Hp} (e : Ext n0 O O' H) (h : n0 ≤ O.length) : n0 ≤ O'.length := by
  cases n0 with
  | zero => exact Nat.zero_le _
  | succ n =>
    have h1 := e.pre n (Nat.lt_succ_self n)
    have h2 : O[n]? = some O[n] := List.getElem?_eq_getElem h
    rw [h2] at h1
    exact (List.getElem?_eq_some_iff.mp h1).1
theorem xs_nil : XSs X sNil [] := pss_weak pss_nil fun D σ H ⟨n0, ρ, O, cs, out, e, hn, en, w, p⟩ => by
  cases e
  exact p σ O H .refl .refl en w
theorem tSeq_of {K : PySem.W.Frag} {f g : MS} {D : Ends} {σ : L2.St} {H : Hp} (h : tS K (sSeq f g) D σ H) : tSeq (tS K f) (tS K g) D σ H := by
  obtain ⟨n0, ρ, O, cs, out, e, hn, en, w, p⟩ := h
  obtain ⟨o, h1, h2⟩ := Option.bind_eq_some_iff.mp e
  refine ⟨n0, ρ, O, cs, o, h1, hn, en, w, ?_⟩
  cases o with
  | nx ρ1 cs1 =>
    intro σ1 O1 H1 e1 c1 en1 w1
    exact ⟨n0, ρ1, O1, cs1, out, h2, e1.len hn, en1, w1, p.step w w1 e1 c1⟩
  | rt r cs1 => cases h2; exact p
  | bk r cs1 => cases h2; exact p
  | ct r cs1 => cases h2; exact p
theorem xs_cons {st : Stmt} {rest : List Stmt} {f g : MS} (h1 : XS X f st) (h2 : XSs X g rest) : XSs X (sSeq f g) (st :: rest) := pss_weak (pss_cons h1 h2) fun D σ H h => tSeq_of h
theorem xs_one {st : Stmt} {f : MS} (h1 : XS X f st) : XSs X f [st] := pss_one h1
theorem xs_pass {pos : Pos} : XS X sNil (.Pass pos) := ps_weak ps_pass fun D σ H ⟨n0, ρ, O, cs, out, e, hn, en, w, p⟩ => by
  cases e
  exact p σ O H .refl .refl en w
def sBrk : MS := fun _ ρ cs => some (.bk ρ cs)
def sCnt : MS := fun _ ρ cs => some (.ct ρ cs)
theorem xs_break {pos : Pos} : XS X sBrk (.Break pos) := ps_weak ps_break fun D σ H ⟨n0, ρ, O, cs, out, e, hn, en, w, p⟩ => by
  cases e
  exact p σ O H .refl .refl en w
theorem xs_continue {pos : Pos} : XS X sCnt (.Continue pos) := ps_weak ps_continue fun D σ H ⟨n0, ρ, O, cs, out, e, hn, en, w, p⟩ => by
  cases e
  exact p σ O H .refl .refl en w
/-- never reached -/
def sNev : MS := fun _ _ _ => none
theorem xs_never {st : Stmt} : XS X sNev st := ps_weak ps_never fun D σ H ⟨n0, ρ, O, cs, out, e, _⟩ => by cases e
theorem xss_never {st : List Stmt} : XSs X sNev st := pss_weak pss_never fun D σ H ⟨n0, ρ, O, cs, out, e, _⟩ => by cases e
/-- an expression dropped -/
def sExpr (f : ME) : MS := fun _ ρ cs => (f ρ cs).map fun p => .nx ρ p.2
theorem xs_expr {e : Expr} {f : ME} {pos : Pos} (he : XE X f e) (hs : swapsWith e none pos.line X.env = pure false := by rfl) : XS X (sExpr f) (.Expr e pos) :=
  ps_weak (ps_expr he hs) fun D σ H ⟨n0, ρ, O, cs, out, e0, hn, en, w, p⟩ => by
    obtain ⟨⟨r, cs1⟩, h1, h2⟩ := Option.map_eq_some_iff.mp e0
    subst h2
    exact ⟨ρ, O, cs, r, cs1, h1, en, w, fun v H' c w' _ => p σ O H' .refl c (en.ch c) w'⟩
/-- a new owned cell -/
theorem ext_new {K : PySem.W.Frag} {n0 : Nat} {O : List (Option Addr)} {H : Hp} {p : Addr} (hn : n0 ≤ O.length) (hp : H p = none) : Ext n0 O (O ++ [some p]) H := by
  refine ⟨fun i hi => List.getElem?_append_left (by omega), fun a ha => ?_⟩
  obtain ⟨i, q⟩ := mem_live.mp ha
  by_cases hi : i < O.length
  · rw [List.getElem?_append_left hi] at q
    exact .inl (mem_live.mpr ⟨i, q⟩)
  · rw [List.getElem?_append_right (by omega)] at q
    have h0 : i - O.length = 0 := by
      have := (List.getElem?_eq_some_iff.mp q).1
      simp at this; omega
    rw [h0] at q
    simp at q
    subst q
    exact .inr hp
theorem EnvOk.ext {K : PySem.W.Frag} {n0 : Nat} {O : List (Option Addr)} {H H' : Hp} {ρ : Rho} {σ : L2.St} {p : Addr} (en : EnvOk K O H ρ σ) (hp : H p = none) (c : Ch O H H') : EnvOk K (O ++ [some p]) H' ρ σ := by
  have sb : Sub O H (O ++ [some p]) H' := Sub.of (n0 := 0) (ext_new (K := K) (Nat.zero_le _) hp) c
  refine ⟨en.len, fun i r h => ?_⟩
  obtain ⟨v, h1, h2⟩ := en.slot i r h
  refine ⟨v, h1, ?_⟩
  cases r with
  | dat d => exact Rp.mono sb h2
  | own k =>
    obtain ⟨a, e, q⟩ := h2
    exact ⟨a, e, by rw [List.getElem?_append_left (List.getElem?_eq_some_iff.mp q).1]; exact q⟩
  | fr c => exact h2
  | exn nm d => exact ExAt.mono sb h2
/-- name = value: data -/
def sSet (i : Nat) (f : ME) : MS := fun _ ρ cs => (f ρ cs).bind fun p => match deg p.1 with
  | .dat d => some (.nx (ρ.set i (some (.dat d))) p.2)
  | _ => none
/-- name = a fresh list, to be changed in place -/
def sOwn (i : Nat) (f : ME) : MS := fun _ ρ cs => (f ρ cs).bind fun p => match p.1 with
  | .fr c => some (.nx (ρ.set i (some (.own p.2.length))) (p.2 ++ [some c]))
  | _ => none
theorem tSet_of {K : PySem.W.Frag} {i : Nat} {f : ME} {D : Ends} {σ : L2.St} {H : Hp} (h : tS K (sSet i f) D σ H) : tAsg (tX K f) (gName i) D σ H := by
  obtain ⟨n0, ρ, O, cs, out, e0, hn, en, w, p⟩ := h
  obtain ⟨⟨r, cs1⟩, h1, h2⟩ := Option.bind_eq_some_iff.mp e0
  refine ⟨ρ, O, cs, r, cs1, h1, en, w, fun v H' c w' rv => ?_⟩
  have rr := rv.deg
  dsimp only at h2
  split at h2
  · rename_i d hd
    cases h2
    rw [hd] at rr
    exact p _ O H' .refl c ((en.ch c).set i rr) w'
  · cases h2
theorem tOwn_of {K : PySem.W.Frag} {i : Nat} {f : ME} {D : Ends} {σ : L2.St} {H : Hp} (h : tS K (sOwn i f) D σ H) : tAsg (tX K f) (gName i) D σ H := by
  obtain ⟨n0, ρ, O, cs, out, e0, hn, en, w, p⟩ := h
  obtain ⟨⟨r, cs1⟩, h1, h2⟩ := Option.bind_eq_some_iff.mp e0
  refine ⟨ρ, O, cs, r, cs1, h1, en, w, fun v H' c w' rv => ?_⟩
  cases r with
  | fr l =>
    cases h2
    obtain ⟨q, rfl, hq, w2⟩ := rv
    refine p _ (O ++ [some q]) H' (ext_new (K := K) hn hq) c ((en.ext (n0 := 0) hq c).set i ⟨q, rfl, ?_⟩) w2
    show (O ++ [some q])[cs1.length]? = some (some q)
    rw [w'.len]; simp
  | _ => cases h2
theorem xs_set {i : Nat} {x : Str} {e : Expr} {f : ME} {pos pos' : Pos} (hN : X.N.Nodup) (hi : X.N[i]? = some x) (hx : Loc X.env.scope x) (he : XE X f e) (hs : swapsWith e (some (.Name x pos')) pos.line X.env = pure false := by rfl)
    (hf : X.fn x = true ∨ X.env.scope.names.lookup x = some .local := by first | exact .inl rfl | exact .inr rfl) : XS X (sSet i f) (.Assign [.Name x pos'] e pos) := ps_weak (ps_set hN hi hx he hs hf) fun D σ H h => tSet_of h
theorem xs_own {i : Nat} {x : Str} {e : Expr} {f : ME} {pos pos' : Pos} (hN : X.N.Nodup) (hi : X.N[i]? = some x) (hx : Loc X.env.scope x) (he : XE X f e) (hs : swapsWith e (some (.Name x pos')) pos.line X.env = pure false := by rfl)
    (hf : X.fn x = true ∨ X.env.scope.names.lookup x = some .local := by first | exact .inl rfl | exact .inr rfl) : XS X (sOwn i f) (.Assign [.Name x pos'] e pos) := ps_weak (ps_set hN hi hx he hs hf) fun D σ H h => tOwn_of h
/-- return -/
def sRet (f : ME) : MS := fun n0 ρ cs => (f ρ cs).bind fun p => match p.1 with
  | .dat d => some (.rt (.dat d) p.2)
  | .fr c => some (.rt (.own p.2.length) (p.2 ++ [some c]))
  | .own k => if n0 ≤ k then some (.rt (.own k) p.2) else none
  | .exn _ _ => none
theorem xs_ret {e : Expr} {f : ME} {pos : Pos} (he : XE X f e) : XS X (sRet f) (.Return (some e) pos) :=
  ps_weak (ps_ret he) fun D σ H ⟨n0, ρ, O, cs, out, e0, hn, en, w, p⟩ => by
    obtain ⟨⟨r, cs1⟩, h1, h2⟩ := Option.bind_eq_some_iff.mp e0
    refine ⟨ρ, O, cs, r, cs1, h1, en, w, fun v H' c w' rv => ?_⟩
    cases r with
    | dat d => cases h2; exact p v O H' .refl c w' rv
    | exn nm d => cases h2
    | own k =>
      obtain ⟨_, h3⟩ := ite_some h2
      subst h3
      exact p v O H' .refl c w' rv
    | fr l =>
      cases h2
      obtain ⟨q, rfl, hq, w2⟩ := rv
      refine p _ (O ++ [some q]) H' (ext_new (K := X.K) hn hq) c w2 ⟨q, rfl, ?_⟩
      show (O ++ [some q])[cs1.length]? = some (some q)
      rw [w'.len]; simp
def sRetN : MS := fun _ _ cs => some (.rt (.dat .none) cs)
theorem xs_retN {pos : Pos} : XS X sRetN (.Return none pos) := ps_weak ps_retN fun D σ H ⟨n0, ρ, O, cs, out, e0, hn, en, w, p⟩ => by
  cases e0
  exact p .non O H .refl .refl w .non
/-- if -/
def sIf (c : MT) (f g : MS) : MS := fun n0 ρ cs => (c ρ cs).bind fun p => if p.1 = true then f n0 ρ p.2 else g n0 ρ p.2
theorem xs_if {c : Expr} {a b : List Stmt} {t : MT} {f g : MS} {pos : Pos} (hc : XT X t c) (ha : XSs X f a) (hb : XSs X g b) : XS X (sIf t f g) (.If c a b pos) :=
  ps_weak (ps_if hc ha hb) fun D σ H ⟨n0, ρ, O, cs, out, e0, hn, en, w, p⟩ => by
    obtain ⟨⟨k, cs1⟩, h1, h2⟩ := Option.bind_eq_some_iff.mp e0
    refine ⟨ρ, O, cs, k, cs1, h1, en, w, fun H1 c1 w1 => ?_⟩
    cases k with
    | true => exact ⟨n0, ρ, O, cs1, out, h2, hn, en.ch c1, w1, p.step w w1 .refl c1⟩
    | false => exact ⟨n0, ρ, O, cs1, out, h2, hn, en.ch c1, w1, p.step w w1 .refl c1⟩
/-- an owned cell is given up: data from now on -/
def sFrz (i : Nat) (f : MS) : MS := fun n0 ρ cs => match ρ[i]? with
  | some (some (.own k)) => if n0 ≤ k then (match cs[k]? with
    | some (some c) => f n0 ((ρ.map fun r => match r with
        | some (.own j) => if j = k then none else some (.own j)
        | r => r).set i (some (.dat (.list c)))) (cs.set k none)
    | _ => none) else none
  | _ => none
end
end DL
namespace DL
open PySem PySem.Spec PyProof.Rows L2
section
variable {X : Cx}
theorem live_set {O : List (Option Addr)} {k : Nat} {a : Addr} (h : a ∈ live (O.set k none)) : a ∈ live O := by
  obtain ⟨i, q⟩ := mem_live.mp h
  refine mem_live.mpr ⟨i, ?_⟩
  by_cases e : k = i
  · subst e
    by_cases hk : k < O.length
    · rw [List.getElem?_set_self hk] at q; cases q
    · rw [List.getElem?_eq_none (by simp; omega)] at q; cases q
  · rw [List.getElem?_set_ne e] at q
    exact q
theorem Wd.freeze {K : PySem.W.Frag} {O : List (Option Addr)} {cs : Cs} {H : Hp} (w : Wd K O cs H) {k : Nat} : Wd K (O.set k none) (cs.set k none) H := by
  have sb : ∀ a o, hd O H a = some o → hd (O.set k none) H a = some o := fun a o h => by
    obtain ⟨n, e⟩ := hd_some h
    exact hd_of (fun z => n (live_set z)) e
  have get : ∀ {i : Nat} {x : Addr}, (O.set k none)[i]? = some (some x) → O[i]? = some (some x) ∧ k ≠ i := fun {i x} q => by
    by_cases e : k = i
    · subst e
      by_cases hk : k < O.length
      · rw [List.getElem?_set_self hk] at q; cases q
      · rw [List.getElem?_eq_none (by simp; omega)] at q; cases q
    · rw [List.getElem?_set_ne e] at q
      exact ⟨q, e⟩
  refine ⟨by simp [w.len], fun i j a h1 h2 => w.inj i j a (get h1).1 (get h2).1, fun i a h => ?_, fun i h => ?_⟩
  · obtain ⟨h1, ne⟩ := get h
    obtain ⟨c, vs, h2, h3, h4⟩ := w.cell i a h1
    exact ⟨c, vs, by rw [List.getElem?_set_ne ne]; exact h2, h3, h4.mono sb⟩
  · by_cases e : k = i
    · subst e
      have hk : k < cs.length := by
        have := (List.getElem?_eq_some_iff.mp h).1
        rw [w.len]; simpa using this
      rw [List.getElem?_set_self hk]
    · rw [List.getElem?_set_ne e] at h ⊢
      exact w.ded i h
theorem xs_frz {st : Stmt} {i : Nat} {f : MS} (h : XS X f st) : XS X (sFrz i f) st := ps_weak h fun D σ H ⟨n0, ρ, O, cs, out, e0, hn, en, w, p⟩ => by
  unfold sFrz at e0
  split at e0
  · rename_i k hk
    split at e0
    · rename_i hnk
      split at e0
      · rename_i c hc
        obtain ⟨a, vs, h1, h2, h3⟩ := w.of hc
        have wf : Wd X.K (O.set k none) (cs.set k none) H := w.freeze
        have sb : ∀ b o, hd O H b = some o → hd (O.set k none) H b = some o := fun b o hb => by
          obtain ⟨n, e⟩ := hd_some hb
          exact hd_of (fun z => n (live_set z)) e
        have na : a ∉ live (O.set k none) := fun z => by
          obtain ⟨j, q⟩ := mem_live.mp z
          by_cases ej : k = j
          · subst ej
            rw [List.getElem?_set_self (List.getElem?_eq_some_iff.mp h1).1] at q; cases q
          · rw [List.getElem?_set_ne ej] at q
            exact ej (w.inj k j a h1 q)
        have rp : Rp X.K (hd (O.set k none) H) (.ref a) (.list c) := .lst (.inl (.inl (hd_of na h2))) (h3.mono sb)
        have ex : Ext n0 O (O.set k none) H := ⟨fun j hj => List.getElem?_set_ne (by omega), fun b hb => .inl (live_set hb)⟩
        refine ⟨n0, _, O.set k none, cs.set k none, out, e0, by simpa using hn, ⟨by simp [en.len], fun j r hj => ?_⟩, wf, p.step w wf ex .refl⟩
        by_cases e : i = j
        · subst e
          have hi : i < ρ.length := (List.getElem?_eq_some_iff.mp hk).1
          rw [List.getElem?_set_self (by simpa using hi)] at hj
          cases hj
          obtain ⟨v, q1, b, rfl, q2⟩ := en.slot i _ hk
          rw [h1] at q2; cases q2
          exact ⟨_, q1, rp⟩
        · rw [List.getElem?_set_ne e, List.getElem?_map] at hj
          cases q : ρ[j]? with
          | none => rw [q] at hj; cases hj
          | some r0 =>
            rw [q] at hj
            cases r0 with
            | none => cases hj
            | some r1 =>
              cases r1 with
              | dat d =>
                cases hj
                obtain ⟨v, q1, q2⟩ := en.slot j _ q
                exact ⟨v, q1, Rp.mono sb q2⟩
              | fr l =>
                obtain ⟨v, q1, q2⟩ := en.slot j _ q
                exact q2.elim
              | exn nm d =>
                cases hj
                obtain ⟨v, q1, q2⟩ := en.slot j _ q
                exact ⟨v, q1, ExAt.mono sb q2⟩
              | own l =>
                obtain ⟨v, q1, b, q2, q3⟩ := en.slot j _ q
                have hj' : (if l = k then none else some (Rv.own l)) = some r := by
                  have := Option.some.inj hj
                  exact this
                split at hj'
                · cases hj'
                · rename_i ne
                  cases hj'
                  exact ⟨v, q1, b, q2, by rw [List.getElem?_set_ne (Ne.symm ne)]; exact q3⟩
      · cases e0
    · cases e0
  · cases e0

/-! targets -/
abbrev MG := D → Rho → Option Rho
def tG (K : PySem.W.Frag) (vs : List Nat) (g : MG) : TG := fun v σ H Q => ∃ ρ O cs d ρ', g d ρ = some ρ' ∧ Rp K (hd O H) v d ∧ EnvOk K O H ρ σ ∧ Wd K O cs H ∧ ∀ σ', EnvOk K O H ρ' σ' → wipe σ' vs = wipe σ vs → Q σ' H
def XG (X : Cx) (vs : List Nat) (g : MG) (e : Expr) : Prop := PG X e (tG X.K vs g)
theorem wipe_get (σ : L2.St) (j : Nat) : ∀ vs : List Nat, (wipe σ vs)[j]? = if j ∈ vs ∧ j < σ.length then some none else σ[j]?
  | [] => by simp [wipe]
  | v :: vs => by
    have ih := wipe_get σ j vs
    unfold wipe
    rw [List.getElem?_set, ih, wipe_length]
    by_cases h : v = j
    · subst h
      by_cases hj : v < σ.length <;> simp [hj]
    · have h' : j ≠ v := fun e => h e.symm
      rw [if_neg h]
      simp [h']
theorem wipe_set {σ : L2.St} {i : Nat} {x : Option V} {vs : List Nat} (h : i ∈ vs) : wipe (σ.set i x) vs = wipe σ vs := by
  apply List.ext_getElem?
  intro j
  rw [wipe_get, wipe_get, List.length_set]
  by_cases c : j ∈ vs ∧ j < σ.length
  · rw [if_pos c, if_pos c]
  · rw [if_neg c, if_neg c]
    by_cases e : i = j
    · subst e
      have hi : ¬ i < σ.length := fun z => c ⟨h, z⟩
      rw [List.getElem?_eq_none (by simp; omega), List.getElem?_eq_none (by omega)]
    · rw [List.getElem?_set_ne e]
def gNm (i : Nat) : MG := fun d ρ => some (ρ.set i (some (.dat d)))
theorem pg_weak {e : Expr} {t t' : TG} (h : PG X e t) (w : ∀ v σ H Q, t' v σ H Q → t v σ H Q) : PG X e t' := ⟨fun pins s σ H v u Q I r q => h.run pins s σ H v u Q I r (w _ _ _ _ q)⟩
theorem xg_name {i : Nat} {x : Str} {pos : Pos} {vs : List Nat} (hN : X.N.Nodup) (hi : X.N[i]? = some x) (hx : Loc X.env.scope x) (hm : i ∈ vs := by simp) (hf : X.fn x = true ∨ X.env.scope.names.lookup x = some .local := by first | exact .inl rfl | exact .inr rfl) : XG X vs (gNm i) (.Name x pos) :=
  pg_weak (pg_name hN hi hx hf) fun v σ H Q ⟨ρ, O, cs, d, ρ', e, r, en, w, p⟩ => by
    cases e
    exact p _ (en.set i (r := .dat d) r) (wipe_set hm)
abbrev MGs := List D → Rho → Option Rho
def tGs (K : PySem.W.Frag) (ws : List Nat) (g : MGs) : TGs := fun vs σ H Q => ∃ ρ O cs ds ρ', g ds ρ = some ρ' ∧ RpAll K (hd O H) vs ds ∧ EnvOk K O H ρ σ ∧ Wd K O cs H ∧ ∀ σ', EnvOk K O H ρ' σ' → wipe σ' ws = wipe σ ws → Q σ' H
def XGs (X : Cx) (ws : List Nat) (g : MGs) (es : List Expr) : Prop := PGs X es (tGs X.K ws g)
theorem pgs_weak {e : List Expr} {t t' : TGs} (h : PGs X e t) (w : ∀ v σ H Q, t' v σ H Q → t v σ H Q) : PGs X e t' := ⟨fun pins s σ H v u Q I r q => h.run pins s σ H v u Q I r (w _ _ _ _ q)⟩
def gsNil : MGs := fun ds ρ => match ds with
  | [] => some ρ
  | _ => none
def gsCons (g : MG) (h : MGs) : MGs := fun ds ρ => match ds with
  | d :: r => (g d ρ).bind fun ρ1 => h r ρ1
  | [] => none
theorem xgs_nil {ws : List Nat} : XGs X ws gsNil [] := pgs_weak pgs_nil fun vs σ H Q ⟨ρ, O, cs, ds, ρ', e, r, en, w, p⟩ => by
  cases ds with
  | nil =>
    cases e
    cases r
    exact ⟨rfl, p σ en rfl⟩
  | cons _ _ => cases e
theorem xgs_cons {e : Expr} {es : List Expr} {g : MG} {h : MGs} {ws : List Nat} (h1 : XG X ws g e) (h2 : XGs X ws h es) (hs : (assignEach (e :: es) X.env).map (·.2) = assign e X.env :: (assignEach es X.env).map (·.2) := by rfl) : XGs X ws (gsCons g h) (e :: es) :=
  pgs_weak (pgs_cons h1 h2 hs) fun vs σ H Q ⟨ρ, O, cs, ds, ρ', e0, r, en, w, p⟩ => by
    cases ds with
    | nil => cases e0
    | cons d ds =>
      cases r with
      | cons r1 r2 =>
        obtain ⟨ρ1, h3, h4⟩ := Option.bind_eq_some_iff.mp e0
        exact ⟨_, _, rfl, ρ, O, cs, d, ρ1, h3, r1, en, w, fun σ1 en1 q1 => ⟨ρ1, O, cs, ds, ρ', h4, r2, en1, w, fun σ2 en2 q2 => p σ2 en2 (q2.trans q1)⟩⟩
def gTp (n : Nat) (g : MGs) : MG := fun d ρ => match d with
  | .tuple ds => if ds.length = n then g ds ρ else none
  | _ => none
theorem xg_tup {es : List Expr} {k : Nat} {g : MGs} {n : Nat} {pos : Pos} {ws : List Nat} (hc : X.calm = true) (h : XGs X ws g es) (hn : (assignEach es X.env).length = n := by rfl) (hst : (assignEach es X.env).findIdx? (·.1) = none := by rfl) : XG X ws (gTp n g) (.Tuple es k pos) :=
  pg_weak (pg_tup hc h hn hst) fun v σ H Q ⟨ρ, O, cs, d, ρ', e, r, en, w, p⟩ => by
    cases d with
    | tuple ds =>
      have e' : (if ds.length = n then g ds ρ else none) = some ρ' := e
      by_cases hl : ds.length = n
      · rw [if_pos hl] at e'
        cases r with
        | tup q rr => exact ⟨_, _, rfl, sqT_mono hd_le q, by rw [rr.length]; exact hl, ρ, O, cs, ds, ρ', e', rr, en, w, p⟩
      · rw [if_neg hl] at e'; cases e'
    | _ => cases e
/-- target = value, any target of names -/
def sAsg (f : ME) (g : MG) : MS := fun _ ρ cs => (f ρ cs).bind fun p => match deg p.1 with
  | .dat d => (g d ρ).map fun ρ' => .nx ρ' p.2
  | _ => none
theorem xs_asg {tg e : Expr} {f : ME} {g : MG} {pos : Pos} {ws : List Nat} (he : XE X f e) (hg : XG X ws g tg) (hs : swapsWithSole [tg] e pos.line X.env = pure false := by rfl) (hw : swappedStores [tg] e X.env = pure none := by rfl)
    (h1 : (assignEach [tg] X.env).map (·.2) = [assign tg X.env] := by rfl) : XS X (sAsg f g) (.Assign [tg] e pos) :=
  ps_weak (ps_asg he hg hs hw h1) fun D σ H ⟨n0, ρ, O, cs, out, e0, hn, en, w, p⟩ => by
    obtain ⟨⟨r, cs1⟩, h1, h2⟩ := Option.bind_eq_some_iff.mp e0
    refine ⟨ρ, O, cs, r, cs1, h1, en, w, fun v H' c w' rv => ?_⟩
    have rr := rv.deg
    dsimp only at h2
    split at h2
    · rename_i d hd'
      obtain ⟨ρ', h3, h4⟩ := Option.map_eq_some_iff.mp h2
      subst h4
      rw [hd'] at rr
      exact ⟨ρ, O, cs1, d, ρ', h3, rr, en.ch c, w', fun σ' en' _ => p σ' O H' .refl c en' w'⟩
    · cases h2
/-- a, b = x, y -/
def sPar (i j : Nat) (fa : MA) : MS := fun _ ρ cs => (fa ρ cs).bind fun p => match p.1 with
  | [.dat d, .dat e] => some (.nx ((ρ.set i (some (.dat d))).set j (some (.dat e))) p.2)
  | _ => none
theorem xs_par {i j : Nat} {x y : Str} {a b : Expr} {fa : MA} {px py pt pos : Pos} {kt k2 pt2} (hc : X.calm = true) (hN : X.N.Nodup) (hi : X.N[i]? = some x) (hj : X.N[j]? = some y) (hij : i ≠ j)
    (hx : X.env.scope.names.lookup x = some .local) (hy : X.env.scope.names.lookup y = some .local) (ha : XA X fa [a, b])
    (hw : swappedStores [.Tuple [.Name x px, .Name y py] kt pt] (.Tuple [a, b] k2 pt2) X.env = pure (some [x, y]) := by rfl)
    (hs : swapsWithSole [.Tuple [.Name x px, .Name y py] kt pt] (.Tuple [a, b] k2 pt2) pos.line X.env = pure false := by rfl) :
    XS X (sPar i j fa) (.Assign [.Tuple [.Name x px, .Name y py] kt pt] (.Tuple [a, b] k2 pt2) pos) :=
  ps_weak (ps_par hc hN hi hj hij hx hy ha hw hs) fun D σ H ⟨n0, ρ, O, cs, out, e0, hn, en, w, p⟩ => by
    obtain ⟨⟨rs, cs1⟩, h1, h2⟩ := Option.bind_eq_some_iff.mp e0
    refine ⟨ρ, O, cs, rs, cs1, h1, en, w, fun vs H' c w' ra => ?_⟩
    dsimp only at h2
    split at h2
    · rename_i _ d e
      cases h2
      match vs, ra with
      | [v, u], ra => exact ⟨v, u, rfl, p _ O H' .refl c (((en.ch c).set i (r := .dat d) ra.1).set j (r := .dat e) ra.2.1) w'⟩
      | [], ra => exact ra.elim
      | [_], ra => exact ra.2.elim
      | _ :: _ :: _ :: _, ra => exact ra.2.2.elim
    · cases h2
/-! changes in place -/
/-- what is changed: a name's owned cell -/
def cellOf (r : Option (Option Rv)) : Option Nat := match r with
  | some (some (.own k)) => some k
  | _ => none
theorem cellOf_some {r : Option (Option Rv)} {k : Nat} (h : cellOf r = some k) : r = some (some (.own k)) := by
  match r, h with
  | some (some (.own _)), h => cases h; rfl
theorem Wd.write {K : PySem.W.Frag} {O : List (Option Addr)} {cs : Cs} {H : Hp} (w : Wd K O cs H) {k : Nat} {a : Addr} {vs : List V} {c : List D} (h : O[k]? = some (some a)) (r : RpAll K (hd O H) vs c) : Wd K O (cs.set k (some c)) (upd H a (.lst vs)) ∧ Ch O H (upd H a (.lst vs)) := by
  have la : a ∈ live O := mem_live.mpr ⟨k, h⟩
  have ch : Ch O H (upd H a (.lst vs)) := fun b o n e => by
    rw [upd_ne (fun z => n (by rw [z]; exact la))]; exact e
  have hk : k < cs.length := by rw [w.len]; exact (List.getElem?_eq_some_iff.mp h).1
  refine ⟨⟨by simp [w.len], w.inj, fun i b hb => ?_, fun i hi => ?_⟩, ch⟩
  · by_cases e : i = k
    · subst e
      rw [h] at hb; cases hb
      exact ⟨c, vs, by rw [List.getElem?_set_self hk], upd_same, r.mono ch.data⟩
    · obtain ⟨c', vs', h1, h2, h3⟩ := w.cell i b hb
      have nb : b ≠ a := fun z => e (w.inj i k b hb (by rw [z]; exact h))
      exact ⟨c', vs', by rw [List.getElem?_set_ne (Ne.symm e)]; exact h1, by rw [upd_ne nb]; exact h2, h3.mono ch.data⟩
  · by_cases e : i = k
    · subst e
      rw [h] at hi; cases hi
    · rw [List.getElem?_set_ne (Ne.symm e)]; exact w.ded i hi
/-- x[i] = e, x an owned cell -/
def sPut (x : Nat) (fi fe : ME) : MS := fun _ ρ cs => (fe ρ cs).bind fun p => (cellOf ρ[x]?).bind fun k => (fi ρ p.2).bind fun q => (intOf q.1).bind fun i => match deg p.1, q.2[k]? with
  | .dat d, some (some c) => (ixN c.length i).map fun j => .nx ρ (q.2.set k (some (c.set j d)))
  | _, _ => none
theorem xs_put {x : Nat} {nm : Str} {i e : Expr} {fi fe : ME} {p1 p2 pos : Pos} (hN : X.N[x]? = some nm) (hv : Vis X.env.scope nm) (hi : XE X fi i) (he : XE X fe e)
    (ha : ∀ v, assign (.Subscript (.Name nm p1) i p2) X.env v = (do
      let ov ← holding [v] (eval (.Name nm p1) X.env)
      let iv ← holding [v, ov] (eval i X.env)
      standAt p2
      holding [v, ov, iv] (setItem ov iv v)
      release [v, ov, iv] []) := by intro _; rfl)
    (hs : swapsWithSole [.Subscript (.Name nm p1) i p2] e pos.line X.env = pure false := by rfl) (hw : swappedStores [.Subscript (.Name nm p1) i p2] e X.env = pure none := by rfl)
    (h1 : (assignEach [.Subscript (.Name nm p1) i p2] X.env).map (·.2) = [assign (.Subscript (.Name nm p1) i p2) X.env] := by rfl)
    (hd : (nm == ("__debug__" : Str)) = false := by decide) (hcd : (nm == ("__classdict__" : Str)) = false := by decide) :
    XS X (sPut x fi fe) (.Assign [.Subscript (.Name nm p1) i p2] e pos) :=
  ps_weak (ps_asg he (pg_sub (pe_var hN hv hd hcd) hi set_list ha) hs hw h1) fun D σ H ⟨n0, ρ, O, cs, out, e0, hn, en, w, p⟩ => by
    obtain ⟨⟨r, cs1⟩, g1, e1⟩ := Option.bind_eq_some_iff.mp e0
    obtain ⟨k, g2, e2⟩ := Option.bind_eq_some_iff.mp e1
    obtain ⟨⟨y, cs2⟩, g3, e3⟩ := Option.bind_eq_some_iff.mp e2
    obtain ⟨m, g4, e4⟩ := Option.bind_eq_some_iff.mp e3
    clear e0 e1 e2 e3
    obtain rfl : y = di m := intOf_some g4
    refine ⟨ρ, O, cs, r, cs1, g1, en, w, fun v H1 c1 w1 rv => ?_⟩
    obtain ⟨u, q1, a, rfl, q2⟩ := en.slot x _ (cellOf_some g2)
    refine ⟨_, q1, ρ, O, cs1, _, cs2, g3, en.ch c1, w1, fun v2 H2 c2 w2 rv2 => ?_⟩
    have rr := rv.deg.ch c2
    dsimp only at e4
    split at e4
    · rename_i d c hd' hc'
      obtain ⟨j, g5, e5⟩ := Option.map_eq_some_iff.mp e4
      subst e5
      rw [hd'] at rr
      obtain ⟨c', vs, h5, h6, h7⟩ := w2.cell k a q2
      rw [hc'] at h5; cases h5
      cases (show Rp X.K (DL.hd O H2) v2 (.int m) from rv2)
      obtain ⟨w3, c3⟩ := w2.write q2 (h7.set rr j)
      exact ⟨a, vs, m, j, rfl, rfl, h6, by rw [h7.length]; exact g5, p σ O _ .refl ((c1.trans c2).trans c3) (en.ch ((c1.trans c2).trans c3)) w3⟩
    · cases e4
/-- x.append(e) -/
def sApp (x : Nat) (fe : ME) : MS := fun _ ρ cs => (cellOf ρ[x]?).bind fun k => (fe ρ cs).bind fun p => match deg p.1, p.2[k]? with
  | .dat d, some (some c) => if c.length < sizeLine then some (.nx ρ (p.2.set k (some (c ++ [d])))) else none
  | _, _ => none
end
end DL
namespace DL
open PySem PySem.Spec PyProof.Rows L2
section
variable {X : Cx}
/-- a rule that runs a statement from the environment: x.append(e) -/
theorem xs_app {x : Nat} {nm : Str} {e : Expr} {fe : ME} {p1 apos cpos pos : Pos} (hN : X.N[x]? = some nm) (hv : Vis X.env.scope nm) (he : XE X fe e)
    (hs : starEach [e] X.env = (false, eval e X.env) :: starEach [] X.env := by rfl)
    (hbase : attributeBase (.Name nm p1) "append" X.env (eval (.Name nm p1) X.env) = eval (.Name nm p1) X.env := by rfl)
    (hfew : ((backTo cpos (starEach [e] X.env)).all (fun x => !x.1) && (backToKw cpos (keywordEach [] X.env)).all (fun x => x.1.isSome)
      && decide ([e].length + ([] : List Keyword).length + (if ([] : List Keyword).isEmpty then 0 else 1) < 30)) = true := by rfl)
    (hline : (apos.endLine == cpos.line) = true := by rfl) (hplain : (backTo cpos (starEach [] X.env)).any (·.1) = false := by rfl)
    (hsw : swapsWith (.Call (.Attribute (.Name nm p1) "append" apos) [e] [] cpos) none pos.line X.env = pure false := by rfl)
    (hd : (nm == ("__debug__" : Str)) = false := by decide) (hcd : (nm == ("__classdict__" : Str)) = false := by decide) :
    XS X (sApp x fe) (.Expr (.Call (.Attribute (.Name nm p1) "append" apos) [e] [] cpos) pos) :=
  ps_weak (ps_expr (pe_bm PySem.F.plainAttrs_list PySem.F.slot_list_append PySem.F.type_list_append mt_append (pe_var hN hv hd hcd) (pa_cons he pa_nil hs) hbase hfew hline hs hplain) hsw) fun D σ H ⟨n0, ρ, O, cs, out, e0, hn, en, w, p⟩ => by
    obtain ⟨k, g2, e2⟩ := Option.bind_eq_some_iff.mp e0
    obtain ⟨⟨r, cs1⟩, g3, e3⟩ := Option.bind_eq_some_iff.mp e2
    clear e0 e2
    obtain ⟨u, q1, a, rfl, q2⟩ := en.slot x _ (cellOf_some g2)
    obtain ⟨c0, vs0, h0, h1, h2⟩ := w.cell k a q2
    refine ⟨_, q1, .inl ⟨rfl, _, .inl (.inl h1)⟩, ρ, O, cs, r, cs1, g3, en, w, fun v H1 c1 w1 rv => ?_⟩
    have rr := rv.deg
    dsimp only at e3
    split at e3
    · rename_i d c hd' hc'
      obtain ⟨hz, rfl⟩ := ite_some e3
      rw [hd'] at rr
      obtain ⟨c', vs, h5, h6, h7⟩ := w1.cell k a q2
      rw [hc'] at h5; cases h5
      obtain ⟨w3, c3⟩ := w1.write q2 (h7.append (.cons (show Rp X.K (DL.hd O H1) v d from rr) .nil))
      exact ⟨a, vs, v, rfl, rfl, h6, by rw [h7.length]; exact hz, p σ O _ .refl (c1.trans c3) (en.ch (c1.trans c3)) w3⟩
    · cases e3

/-! ### what is walked -/
abbrev MI := Rho → Cs → Option (List D × Cs)
def Walk (K : PySem.W.Frag) (O : List (Option Addr)) (H1 : Hp) (J : It) (ds : List D) : Prop := ∀ (i : Nat) (O2 : List (Option Addr)) (cs2 : Cs) (H2 : Hp), Sub O H1 O2 H2 → Wd K O2 cs2 H2 →
  (ds.length ≤ i → J.stop i H2) ∧ ∀ d, ds[i]? = some d → J.go i H2 ∧ ∀ x H3, J.yld i H2 x H3 → Ch O2 H2 H3 ∧ Wd K O2 cs2 H3 ∧ Rp K (hd O2 H3) x d
def tI (K : PySem.W.Frag) (f : MI) : TI := fun σ H R => ∃ ρ O cs ds cs', f ρ cs = some (ds, cs') ∧ EnvOk K O H ρ σ ∧ Wd K O cs H ∧ ∀ J H', Ch O H H' → Wd K O cs' H' → Walk K O H' J ds → R J H'
def XI (X : Cx) (f : MI) (tg iter : Expr) : Prop := PI X tg iter (tI X.K f)
theorem pi_weak {tg iter : Expr} {t t' : TI} (h : PI X tg iter t) (w : ∀ σ H R, t' σ H R → t σ H R) : PI X tg iter t' := ⟨fun pins s σ H R I q => h.run pins s σ H R I (w _ _ _ q)⟩
def loopM (g : MG) (b : MS) (n0 : Nat) : List D → Rho → Cs → Option Out
  | [], ρ, cs => some (.nx ρ cs)
  | d :: ds, ρ, cs => (g d ρ).bind fun ρ1 => (b n0 ρ1 cs).bind fun o => match o with
    | .nx ρ2 cs2 => loopM g b n0 ds ρ2 cs2
    | .ct ρ2 cs2 => loopM g b n0 ds ρ2 cs2
    | .bk ρ2 cs2 => some (.nx ρ2 cs2)
    | .rt r cs2 => some (.rt r cs2)
def sFor (f : MI) (g : MG) (b : MS) : MS := fun n0 ρ cs => (f ρ cs).bind fun p => loopM g b n0 p.1 ρ p.2
theorem loopM_ends {g : MG} {b : MS} {n0 : Nat} : ∀ {ds : List D} {ρ : Rho} {cs : Cs} {out : Out}, loopM g b n0 ds ρ cs = some out → (∃ ρ' cs', out = .nx ρ' cs') ∨ ∃ r cs', out = .rt r cs'
  | [], ρ, cs, out, h => by cases h; exact .inl ⟨_, _, rfl⟩
  | d :: ds, ρ, cs, out, h => by
    obtain ⟨ρ1, h1, h2⟩ := Option.bind_eq_some_iff.mp h
    obtain ⟨o, h3, h4⟩ := Option.bind_eq_some_iff.mp h2
    cases o with
    | nx ρ2 cs2 => exact loopM_ends h4
    | ct ρ2 cs2 => exact loopM_ends h4
    | bk ρ2 cs2 => cases h4; exact .inl ⟨_, _, rfl⟩
    | rt r cs2 => cases h4; exact .inr ⟨_, _, rfl⟩
theorem xs_for {tg iter : Expr} {body : List Stmt} {f : MI} {g : MG} {b : MS} {pos : Pos} {ws : List Nat} (hp : PassesOwn (model X.prog X.w) X.A X.env X.xe) (hc : X.calm = true) (hi : XI X f tg iter) (hg : XG X ws g tg) (hb : XSs X b body)
    (hs : ∀ x, foldedSetIterable iter X.env x = pure x := by intro _; rfl) : XS X (sFor f g b) (.For tg iter body [] pos) :=
  ps_weak (ps_for hp hc hi hg hb hs) fun D σ H ⟨n0, ρ, O, cs, out, e0, hn, en, w, p⟩ => by
    obtain ⟨⟨ds, cs1⟩, g1, g2⟩ := Option.bind_eq_some_iff.mp e0
    clear e0
    refine ⟨ρ, O, cs, ds, cs1, g1, en, w, fun J H1 c1 w1 wk => ?_⟩
    have p1 := p.step w w1 .refl c1
    refine ⟨fun i m σ' H' => m = ds.length - i ∧ i ≤ ds.length ∧ ∃ ρ' O' cs', loopM g b n0 (ds.drop i) ρ' cs' = some out ∧ EnvOk X.K O' H' ρ' σ' ∧ Wd X.K O' cs' H' ∧ Ext n0 O O' H1 ∧ Ch O H1 H', ⟨ds.length, by simp, Nat.zero_le _, ρ, O, cs1, g2, en.ch c1, w1, .refl, .refl⟩, ?_⟩
    rintro i m σ' H' ⟨rfl, hi', ρ', O', cs', e1, en', w', ex', ch'⟩
    have sb : Sub O H1 O' H' := Sub.of ex' ch'
    have hn' : n0 ≤ O'.length := ex'.len hn
    have p' : PostS X.K n0 O' H' out D := p1.step w1 w' ex' ch'
    by_cases hlt : i < ds.length
    · have hd' : ds[i]? = some ds[i] := List.getElem?_eq_getElem hlt
      rw [List.drop_eq_getElem_cons hlt] at e1
      obtain ⟨ρ1, h1, e2⟩ := Option.bind_eq_some_iff.mp e1
      obtain ⟨o, h3, e3⟩ := Option.bind_eq_some_iff.mp e2
      clear e1 e2
      obtain ⟨go, yl⟩ := (wk i O' cs' H' sb w').2 _ hd'
      refine .inr ⟨go, fun σ2 H2 => i + 1 ≤ ds.length ∧ ∃ ρ2 O2 cs2, loopM g b n0 (ds.drop (i + 1)) ρ2 cs2 = some out ∧ EnvOk X.K O2 H2 ρ2 σ2 ∧ Wd X.K O2 cs2 H2 ∧ Ext n0 O O2 H1 ∧ Ch O H1 H2, fun σ2 H2 h2 => ⟨ds.length - (i + 1), by omega, rfl, h2⟩, fun x H3 hy => ?_⟩
      obtain ⟨c3, w3, r3⟩ := yl x H3 hy
      refine ⟨ρ', O', cs', ds[i], ρ1, h1, r3, en'.ch c3, w3, fun σ4 en4 _ => ?_⟩
      refine ⟨n0, ρ1, O', cs', o, h3, hn', en4, w3, ?_⟩
      have again : ∀ ρ2 cs2, loopM g b n0 (ds.drop (i + 1)) ρ2 cs2 = some out → ∀ σ5 O5 H5, Ext n0 O' O5 H3 → Ch O' H3 H5 → EnvOk X.K O5 H5 ρ2 σ5 → Wd X.K O5 cs2 H5 →
          i + 1 ≤ ds.length ∧ ∃ ρ2 O2 cs2, loopM g b n0 (ds.drop (i + 1)) ρ2 cs2 = some out ∧ EnvOk X.K O2 H5 ρ2 σ5 ∧ Wd X.K O2 cs2 H5 ∧ Ext n0 O O2 H1 ∧ Ch O H1 H5 := fun ρ2 cs2 hl σ5 O5 H5 e5 c5 en5 w5 => by
        have ex3 : Ext n0 O O' H1 := ex'
        have ch3 : Ch O H1 H3 := ch'.ext ex' c3
        exact ⟨hlt, ρ2, O5, cs2, hl, en5, w5, ex3.trans w1 w3 ch3 e5, ch3.ext ex3 c5⟩
      have p3 : PostS X.K n0 O' H3 out D := p'.step w' w3 .refl c3
      cases o with
      | nx ρ2 cs2 => exact again ρ2 cs2 e3
      | ct ρ2 cs2 => exact again ρ2 cs2 e3
      | bk ρ2 cs2 => cases e3; exact p3
      | rt r cs2 => cases e3; exact p3
    · have ei : i = ds.length := by omega
      subst ei
      rw [List.drop_length] at e1
      cases e1
      exact .inl ⟨(wk ds.length O' cs' H' sb w').1 (Nat.le_refl _), p' _ O' H' .refl .refl en' w'⟩
/-! while -/
def wh (c : MT) (b : MS) (n0 : Nat) : Nat → Rho → Cs → Option Out
  | 0, _, _ => none
  | n + 1, ρ, cs => (c ρ cs).bind fun p => if p.1 = true then (b n0 ρ p.2).bind fun o => match o with
      | .nx ρ2 cs2 => wh c b n0 n ρ2 cs2
      | .ct ρ2 cs2 => wh c b n0 n ρ2 cs2
      | .bk ρ2 cs2 => some (.nx ρ2 cs2)
      | .rt r cs2 => some (.rt r cs2)
    else some (.nx ρ p.2)
open Classical in
noncomputable def sWh (c : MT) (b : MS) : MS := fun n0 ρ cs => if h : ∃ n, (wh c b n0 n ρ cs).isSome = true then wh c b n0 (Classical.choose h) ρ cs else none
theorem sWh_some {c : MT} {b : MS} {n0 : Nat} {ρ : Rho} {cs : Cs} {out : Out} (h : sWh c b n0 ρ cs = some out) : ∃ n, wh c b n0 n ρ cs = some out := by
  unfold sWh at h
  split at h
  · exact ⟨_, h⟩
  · cases h
theorem wh_mono {c : MT} {b : MS} {n0 : Nat} : ∀ {n : Nat} {ρ : Rho} {cs : Cs} {out : Out}, wh c b n0 n ρ cs = some out → ∀ k, wh c b n0 (n + k) ρ cs = some out
  | 0, _, _, _, h, _ => by cases h
  | n + 1, ρ, cs, out, h, k => by
    obtain ⟨⟨t, cs1⟩, h1, h2⟩ := Option.bind_eq_some_iff.mp h
    rw [show n + 1 + k = (n + k) + 1 by omega]
    refine Option.bind_eq_some_iff.mpr ⟨_, h1, ?_⟩
    cases t with
    | false => exact h2
    | true =>
      obtain ⟨o, h3, h4⟩ := Option.bind_eq_some_iff.mp h2
      refine Option.bind_eq_some_iff.mpr ⟨o, h3, ?_⟩
      cases o with
      | nx ρ2 cs2 => exact wh_mono h4 k
      | ct ρ2 cs2 => exact wh_mono h4 k
      | bk ρ2 cs2 => exact h4
      | rt r cs2 => exact h4
theorem sWh_of {c : MT} {b : MS} {n0 n : Nat} {ρ : Rho} {cs : Cs} {out : Out} (h : wh c b n0 n ρ cs = some out) : sWh c b n0 ρ cs = some out := by
  have hx : ∃ n, (wh c b n0 n ρ cs).isSome = true := ⟨n, by rw [h]; rfl⟩
  unfold sWh
  rw [dif_pos hx]
  obtain ⟨o, ho⟩ := Option.isSome_iff_exists.mp (Classical.choose_spec hx)
  rw [ho]
  have a := wh_mono h (Classical.choose hx)
  have b' := wh_mono ho n
  rw [Nat.add_comm] at b'
  rw [a] at b'
  exact b'.symm
theorem xs_while {c : Expr} {body : List Stmt} {t : MT} {b : MS} {pos : Pos} (hp : PassesOwn (model X.prog X.w) X.A X.env X.xe) (hc : XT X t c) (hb : XSs X b body) : XS X (sWh t b) (.While c body [] pos) :=
  ps_weak (ps_while hp hc hb) fun D σ H ⟨n0, ρ, O, cs, out, e0, hn, en, w, p⟩ => by
    obtain ⟨n, e1⟩ := sWh_some e0
    clear e0
    refine ⟨fun m σ' H' => ∃ ρ' O' cs', wh t b n0 m ρ' cs' = some out ∧ EnvOk X.K O' H' ρ' σ' ∧ Wd X.K O' cs' H' ∧ Ext n0 O O' H ∧ Ch O H H', ⟨n, ρ, O, cs, e1, en, w, .refl, .refl⟩, ?_⟩
    rintro m σ' H' ⟨ρ', O', cs', e2, en', w', ex', ch'⟩
    cases m with
    | zero => cases e2
    | succ m =>
      obtain ⟨⟨k, cs1⟩, h1, e3⟩ := Option.bind_eq_some_iff.mp e2
      clear e2
      have p' : PostS X.K n0 O' H' out D := p.step w w' ex' ch'
      refine ⟨ρ', O', cs', k, cs1, h1, en', w', fun H1 c1 w1 => ?_⟩
      have p1 : PostS X.K n0 O' H1 out D := p'.step w' w1 .refl c1
      cases k with
      | false =>
        cases e3
        exact p1 σ' O' H1 .refl .refl (en'.ch c1) w1
      | true =>
        obtain ⟨o, h3, e4⟩ := Option.bind_eq_some_iff.mp e3
        clear e3
        refine ⟨fun σ2 H2 => ∃ ρ2 O2 cs2, wh t b n0 m ρ2 cs2 = some out ∧ EnvOk X.K O2 H2 ρ2 σ2 ∧ Wd X.K O2 cs2 H2 ∧ Ext n0 O O2 H ∧ Ch O H H2, fun σ2 H2 h2 => ⟨m, Nat.lt_succ_self m, h2⟩, ?_⟩
        refine ⟨n0, ρ', O', cs1, o, h3, ex'.len hn, en'.ch c1, w1, ?_⟩
        have ch1 : Ch O H H1 := ch'.ext ex' c1
        have again : ∀ ρ2 cs2, wh t b n0 m ρ2 cs2 = some out → ∀ σ5 O5 H5, Ext n0 O' O5 H1 → Ch O' H1 H5 → EnvOk X.K O5 H5 ρ2 σ5 → Wd X.K O5 cs2 H5 →
            ∃ ρ2 O2 cs2, wh t b n0 m ρ2 cs2 = some out ∧ EnvOk X.K O2 H5 ρ2 σ5 ∧ Wd X.K O2 cs2 H5 ∧ Ext n0 O O2 H ∧ Ch O H H5 := fun ρ2 cs2 hl σ5 O5 H5 e5 c5 en5 w5 =>
          ⟨ρ2, O5, cs2, hl, en5, w5, ex'.trans w w1 ch1 e5, ch1.ext ex' c5⟩
        cases o with
        | nx ρ2 cs2 => exact again ρ2 cs2 e4
        | ct ρ2 cs2 => exact again ρ2 cs2 e4
        | bk ρ2 cs2 => cases e4; exact p1
        | rt r cs2 => cases e4; exact p1
end
end DL
namespace DL
open PySem PySem.Spec PyProof.Rows L2
section
variable {X : Cx}
/-! sources -/
def itemsOf : D → Option (List D)
  | .list ds => some ds
  | .tuple ds => some ds
  | .str x => some (x.cps.toList.map fun c => .str ⟨#[c]⟩)
  | .dict kvs => if (!isFn kvs && kvs.all fun p => match p.1 with | .str x => decide (x.length ≤ sizeLine) | _ => true) = true then some (kvs.map (·.1)) else none
  | _ => none
def iSeq (f : ME) : MI := fun ρ cs => (f ρ cs).bind fun p => match deg p.1 with
  | .dat d => (itemsOf d).map fun ds => (ds, p.2)
  | _ => none
theorem iSeq_some {f : ME} {ρ : Rho} {cs cs' : Cs} {ds : List D} (h : iSeq f ρ cs = some (ds, cs')) : ∃ r d, f ρ cs = some (r, cs') ∧ deg r = .dat d ∧ itemsOf d = some ds := by
  obtain ⟨⟨r, cs1⟩, h1, h2⟩ := Option.bind_eq_some_iff.mp h
  dsimp only at h2
  split at h2
  · rename_i d hd'
    obtain ⟨x, h3, h4⟩ := Option.map_eq_some_iff.mp h2
    cases h4
    exact ⟨r, d, h1, hd', h3⟩
  · cases h2
theorem walk_list {K : PySem.W.Frag} {O : List (Option Addr)} {H : Hp} {a : Addr} {ds : List D} (r : Rp K (hd O H) (.ref a) (.list ds)) : Walk K O H (Itl K a) ds := by
  intro i O2 cs2 H2 sb w2
  cases r with
  | lst q r =>
    have q2 : SqL K H2 a _ := ((q.mono sb).mono hd_le).sq
    have r2 := r.mono sb
    refine ⟨fun hi => ⟨_, q2, by rw [r2.length]; exact hi⟩, fun d hd' => ?_⟩
    obtain ⟨v, h1, h2⟩ := r2.get hd'
    refine ⟨⟨_, v, q2, h1⟩, fun x H3 hy => ?_⟩
    obtain ⟨rfl, fx⟩ := hy
    have := fx _ q2
    rw [h1] at this; cases this
    exact ⟨.refl, w2, h2⟩
theorem walk_tup {K : PySem.W.Frag} {O : List (Option Addr)} {H : Hp} {a : Addr} {ds : List D} (r : Rp K (hd O H) (.ref a) (.tuple ds)) : Walk K O H (Itt K a) ds := by
  intro i O2 cs2 H2 sb w2
  cases r with
  | tup q r =>
    have q2 : SqT K H2 a _ := sqT_mono hd_le (sqT_mono sb q)
    have r2 := r.mono sb
    refine ⟨fun hi => ⟨_, q2, by rw [r2.length]; exact hi⟩, fun d hd' => ?_⟩
    obtain ⟨v, h1, h2⟩ := r2.get hd'
    refine ⟨⟨_, v, q2, h1⟩, fun x H3 hy => ?_⟩
    obtain ⟨rfl, fx⟩ := hy
    have := fx _ q2
    rw [h1] at this; cases this
    exact ⟨.refl, w2, h2⟩
theorem walk_str {K : PySem.W.Frag} {O : List (Option Addr)} {H : Hp} {x : Str} : Walk K O H (Its x) (x.cps.toList.map fun c => .str ⟨#[c]⟩) := by
  intro i O2 cs2 H2 sb w2
  refine ⟨fun hi => (show x.cps.size ≤ i by simpa using hi), fun d hd' => ?_⟩
  rw [List.getElem?_map] at hd'
  obtain ⟨c, h1, h2⟩ := Option.map_eq_some_iff.mp hd'
  have h1' : x.cps[i]? = some c := by simpa using h1
  refine ⟨(Array.getElem?_eq_some_iff.mp h1').1, fun v H3 hy => ?_⟩
  obtain ⟨rfl, c', hc', rfl⟩ := hy
  rw [h1'] at hc'; cases hc'
  subst h2
  exact ⟨.refl, w2, .str _ (one_sign c)⟩
theorem kV_rp {K : PySem.W.Frag} {H : Hp} {k : Key} (h : ∀ x, k = .inr x → x.length ≤ sizeLine) : Rp K H (kV k) (kD k) := by
  cases k with
  | inl i => exact .int i
  | inr x => exact .str x (h x rfl)
theorem walk_keys {K : PySem.W.Frag} {O : List (Option Addr)} {H : Hp} {a : Addr} {o : Obj} {kvs : List (Key × V)} {ds : List (D × D)} (q : hd O H a = some (.frz o (.dK kvs))) (e : kvs.map (fun p => kD p.1) = ds.map (·.1)) (hz : ∀ (i : Nat) x v, kvs[i]? = some (.inr x, v) → x.length ≤ sizeLine) : Walk K O H (Itk a o kvs) (ds.map (·.1)) := by
  intro i O2 cs2 H2 sb w2
  have q2 := hd_le _ _ (sb _ _ q)
  rw [← e]
  refine ⟨fun hi => ⟨q2, by simpa using hi⟩, fun d hd' => ?_⟩
  rw [List.getElem?_map] at hd'
  obtain ⟨⟨k, v⟩, h1, h2⟩ := Option.map_eq_some_iff.mp hd'
  refine ⟨⟨q2, (List.getElem?_eq_some_iff.mp h1).1⟩, fun x H3 hy => ?_⟩
  obtain ⟨rfl, k', v', h3, rfl⟩ := hy
  rw [h1] at h3
  cases h3
  subst h2
  exact ⟨.refl, w2, kV_rp fun x hx => by subst hx; exact hz i x v h1⟩
theorem xi_seq {tg e : Expr} {f : ME} (he : XE X f e) : XI X (iSeq f) tg e := ⟨fun pins s σ H R I ⟨ρ, O, cs, ds, cs', e0, en, w, p⟩ => by
  obtain ⟨r, d, h1, h2, h3⟩ := iSeq_some e0
  cases d with
  | list xs =>
    cases h3
    refine (pi_list he).run pins s σ H R I ⟨ρ, O, cs, r, cs', h1, en, w, fun v H' c w' rv => ?_⟩
    have rr := rv.deg
    rw [h2] at rr
    have rr' : Rp X.K (DL.hd O H') v (.list ds) := rr
    have hw := rr'
    cases rr' with
    | lst q rp => exact ⟨_, rfl, ⟨_, (q.mono hd_le).sq⟩, p _ H' c w' (walk_list hw)⟩
  | tuple xs =>
    cases h3
    refine (pi_tup he).run pins s σ H R I ⟨ρ, O, cs, r, cs', h1, en, w, fun v H' c w' rv => ?_⟩
    have rr := rv.deg
    rw [h2] at rr
    have rr' : Rp X.K (DL.hd O H') v (.tuple ds) := rr
    have hw := rr'
    cases rr' with
    | tup q rp => exact ⟨_, rfl, ⟨_, sqT_mono hd_le q⟩, p _ H' c w' (walk_tup hw)⟩
  | str x =>
    cases h3
    refine (pi_str he).run pins s σ H R I ⟨ρ, O, cs, r, cs', h1, en, w, fun v H' c w' rv => ?_⟩
    have rr := rv.deg
    rw [h2] at rr
    have rr' : Rp X.K (DL.hd O H') v (.str x) := rr
    cases rr' with
    | str _ q => exact ⟨x, rfl, p _ H' c w' walk_str⟩
  | dict kvs =>
    obtain ⟨h4, h3⟩ := ite_some h3
    obtain ⟨h4', h4⟩ := Bool.and_eq_true_iff.mp h4
    subst h3
    refine (pi_keys he).run pins s σ H R I ⟨ρ, O, cs, r, cs', h1, en, w, fun v H' c w' rv => ?_⟩
    have rr := rv.deg
    rw [h2] at rr
    have rr' : Rp X.K (DL.hd O H') v (.dict kvs) := rr
    cases rr' with
    | fn _ => cases h4'
    | dct q e b =>
      refine ⟨_, _, rfl, .inl ⟨_, hd_le _ _ q, p _ H' c w' (walk_keys q e fun i x v' hi => ?_)⟩⟩
      have h5 : kD (.inr x) ∈ kvs.map (·.1) := by
        rw [← e]
        exact List.mem_map.mpr ⟨_, List.mem_of_getElem? hi, rfl⟩
      obtain ⟨pr, h6, h7⟩ := List.mem_map.mp h5
      have h8 := List.all_eq_true.mp h4 pr h6
      rw [h7] at h8
      exact of_decide_eq_true h8
  | _ => cases h3⟩
/-- range -/
def rngD (lo : Int) (n : Nat) : List D := (List.range n).map fun i : Nat => .int (lo + (i : Int))
theorem walk_rng {K : PySem.W.Frag} {O : List (Option Addr)} {H : Hp} {lo : Int} {n : Nat} : Walk K O H (Itr lo n) (rngD lo n) := by
  intro i O2 cs2 H2 sb w2
  refine ⟨fun hi => (show n ≤ i by simpa [rngD] using hi), fun d hd' => ?_⟩
  unfold rngD at hd'
  rw [List.getElem?_map] at hd'
  obtain ⟨c, h1, h2⟩ := Option.map_eq_some_iff.mp hd'
  have hi : i < n := by
    have := (List.getElem?_eq_some_iff.mp h1).1
    simpa using this
  rw [List.getElem?_range hi] at h1
  cases h1
  subst h2
  refine ⟨hi, fun v H3 hy => ?_⟩
  obtain ⟨rfl, rfl⟩ := hy
  exact ⟨.refl, w2, .int _⟩
def sm62 (i : Int) : Prop := -(2 ^ 62) ≤ i ∧ i < 2 ^ 62
instance (i : Int) : Decidable (sm62 i) := inferInstanceAs (Decidable (_ ∧ _))
def intsOf : List Rv → Option (List Int)
  | [] => some []
  | r :: rs => (intOf r).bind fun i => (intsOf rs).map fun is => i :: is
theorem intsOf_v {K : PySem.W.Frag} {O : List (Option Addr)} {H : Hp} : ∀ {rs : List Rv} {vs : List V} {is : List Int}, ArRs K O H rs vs → intsOf rs = some is → vs = is.map V.int
  | [], [], is, _, e => by cases e; rfl
  | r :: rs, v :: vs, is, h, e => by
    obtain ⟨i, h1, h2⟩ := Option.bind_eq_some_iff.mp e
    obtain ⟨js, h3, h4⟩ := Option.map_eq_some_iff.mp h2
    subst h4
    obtain rfl : r = di i := intOf_some h1
    cases (show Rp K (hd O H) v (.int i) from h.1)
    rw [intsOf_v h.2 h3]; rfl
  | [], _ :: _, _, h, _ => h.elim
  | _ :: _, [], _, h, _ => h.elim
def iRg1 (fa : MA) : MI := fun ρ cs => (fa ρ cs).bind fun p => match intsOf p.1 with
  | some [j] => if sm62 j then some (rngD 0 j.toNat, p.2) else none
  | _ => none
def iRg2 (fa : MA) : MI := fun ρ cs => (fa ρ cs).bind fun p => match intsOf p.1 with
  | some [i, j] => if sm62 i ∧ sm62 j then some (rngD i (j - i).toNat, p.2) else none
  | _ => none
theorem xi_range1 {tg a : Expr} {fa : MA} {p pos : Pos} (hg : Gl X "range") (hm : X.mg "range" = none) (ha : XA X fa [a]) (hs : starEach [a] X.env = [(false, eval a X.env)] := by rfl) : XI X (iRg1 fa) tg (.Call (.Name "range" p) [a] [] pos) :=
  pi_weak (pi_range1 hg hm ha hs) fun σ H R ⟨ρ, O, cs, ds, cs', e0, en, w, p⟩ => by
    obtain ⟨⟨rs, cs1⟩, h1, h2⟩ := Option.bind_eq_some_iff.mp e0
    refine ⟨ρ, O, cs, rs, cs1, h1, en, w, fun vs H' c w' ra => ?_⟩
    dsimp only at h2
    split at h2
    · rename_i j hj
      obtain ⟨hz, e⟩ := ite_some h2
      cases e
      rw [intsOf_v ra hj]
      exact ⟨j, rfl, hz.1, hz.2, p _ H' c w' walk_rng⟩
    · cases h2
theorem xi_range2 {tg a b : Expr} {fa : MA} {p pos : Pos} (hg : Gl X "range") (hm : X.mg "range" = none) (ha : XA X fa [a, b]) (hs : starEach [a, b] X.env = [(false, eval a X.env), (false, eval b X.env)] := by rfl) (hs2 : starEach [b] X.env = [(false, eval b X.env)] := by rfl) :
    XI X (iRg2 fa) tg (.Call (.Name "range" p) [a, b] [] pos) :=
  pi_weak (pi_range2 hg hm ha hs hs2) fun σ H R ⟨ρ, O, cs, ds, cs', e0, en, w, p⟩ => by
    obtain ⟨⟨rs, cs1⟩, h1, h2⟩ := Option.bind_eq_some_iff.mp e0
    refine ⟨ρ, O, cs, rs, cs1, h1, en, w, fun vs H' c w' ra => ?_⟩
    dsimp only at h2
    split at h2
    · rename_i i j hj
      obtain ⟨hz, e⟩ := ite_some h2
      cases e
      rw [intsOf_v ra hj]
      exact ⟨i, j, rfl, ⟨hz.1.1, hz.1.2, hz.2.1, hz.2.2⟩, p _ H' c w' walk_rng⟩
    · cases h2
/-- enumerate of a list -/
def enumD : Nat → List D → List D
  | _, [] => []
  | i, d :: ds => .tuple [.int (i : Int), d] :: enumD (i + 1) ds
theorem enumD_len : ∀ (ds : List D) (k : Nat), (enumD k ds).length = ds.length
  | [], _ => rfl
  | d :: ds, k => by rw [enumD, List.length_cons, List.length_cons, enumD_len ds]
theorem enumD_get : ∀ (ds : List D) (k i : Nat) (d : D), (enumD k ds)[i]? = some d → ∃ e, ds[i]? = some e ∧ d = .tuple [.int ((k + i : Nat) : Int), e]
  | [], _, _, _, h => by simp [enumD] at h
  | e :: ds, k, 0, d, h => by
    simp [enumD] at h
    exact ⟨e, rfl, h.symm⟩
  | e :: ds, k, i + 1, d, h => by
    have h' : (enumD (k + 1) ds)[i]? = some d := by simpa [enumD] using h
    obtain ⟨e', h1, h2⟩ := enumD_get ds (k + 1) i d h'
    exact ⟨e', by simpa using h1, by rw [h2, show k + 1 + i = k + (i + 1) by omega]⟩
theorem two_rp {K : PySem.W.Frag} {O : List (Option Addr)} {cs : Cs} {H : Hp} {T : Addr} {x y : V} {d e : D} (w : Wd K O cs H) (hT : H T = none) (hx : Rp K (hd O H) x d) (hy : Rp K (hd O H) y e) :
    Ch O H (upd H T (.tup [x, y])) ∧ Wd K O cs (upd H T (.tup [x, y])) ∧ Rp K (hd O (upd H T (.tup [x, y]))) (.ref T) (.tuple [d, e]) :=
  ⟨ch_new hT, w.new hT, .tup (.inl (.inl (hd_of (w.fresh hT) upd_same))) (.cons (hx.mono (ch_new hT).data) (.cons (hy.mono (ch_new hT).data) .nil))⟩
theorem walk_enum {K : PySem.W.Frag} {O : List (Option Addr)} {H : Hp} {a : Addr} {ds : List D} (r : Rp K (hd O H) (.ref a) (.list ds)) : Walk K O H (Ite K a) (enumD 0 ds) := by
  intro i O2 cs2 H2 sb w2
  cases r with
  | lst q r =>
    have q2 : SqL K H2 a _ := ((q.mono sb).mono hd_le).sq
    have r2 := r.mono sb
    refine ⟨fun hi => ⟨_, q2, by rw [r2.length]; rw [enumD_len] at hi; exact hi⟩, fun d hd' => ?_⟩
    obtain ⟨e, h0, rfl⟩ := enumD_get ds 0 i d hd'
    obtain ⟨v, h1, h2⟩ := r2.get h0
    refine ⟨⟨_, v, q2, h1⟩, fun x H3 hy => ?_⟩
    obtain ⟨T, y, rfl, hT, rfl, fx⟩ := hy
    have := fx _ q2
    rw [h1] at this; cases this
    rw [Nat.zero_add]
    exact two_rp w2 hT (.int _) h2
def lstOf (r : Rv) : Option (List D) := match deg r with
  | .dat (.list ds) => some ds
  | _ => none
theorem lstOf_some {r : Rv} {ds : List D} (h : lstOf r = some ds) : deg r = .dat (.list ds) := by
  unfold lstOf at h
  split at h
  · rename_i xs hx; cases h; exact hx
  · cases h
def iEn (fa : MA) : MI := fun ρ cs => (fa ρ cs).bind fun p => match p.1 with
  | [r] => (lstOf r).map fun ds => (enumD 0 ds, p.2)
  | _ => none
theorem deg_ar {K : PySem.W.Frag} {O : List (Option Addr)} {H : Hp} {r : Rv} {v : V} (h : ArR K O r v H) : deg r = r := by
  cases r with
  | fr c => exact h.elim
  | _ => rfl
theorem xi_enum {e : Expr} {fa : MA} {p pos tpos : Pos} {elts : List Expr} {kk : Nat} (hg : Gl X "enumerate") (hm : X.mg "enumerate" = none) (ha : XA X fa [e]) (hs : starEach [e] X.env = [(false, eval e X.env)] := by rfl) :
    XI X (iEn fa) (.Tuple elts kk tpos) (.Call (.Name "enumerate" p) [e] [] pos) :=
  pi_weak (pi_enum hg hm ha hs) fun σ H R ⟨ρ, O, cs, ds, cs', e0, en, w, p⟩ => by
    obtain ⟨⟨rs, cs1⟩, h1, h2⟩ := Option.bind_eq_some_iff.mp e0
    refine ⟨ρ, O, cs, rs, cs1, h1, en, w, fun vs H' c w' ra => ?_⟩
    dsimp only at h2
    split at h2
    · rename_i r
      obtain ⟨xs, h3, h4⟩ := Option.map_eq_some_iff.mp h2
      cases h4
      match vs, ra with
      | [v], ra =>
        have rr := ra.1
        rw [← deg_ar ra.1, lstOf_some h3] at rr
        have rr' : Rp X.K (DL.hd O H') v (.list xs) := rr
        have hw := rr'
        cases rr' with
        | lst q rp => exact ⟨_, _, rfl, (q.mono hd_le).sq, p _ H' c w' (walk_enum hw)⟩
      | [], ra => exact ra.elim
      | _ :: _ :: _, ra => exact ra.2.elim
    · cases h2
/-- zip of two lists, of two tuples -/
def zipD : List D → List D → List D
  | x :: xs, y :: ys => .tuple [x, y] :: zipD xs ys
  | _, _ => []
theorem zipD_len : ∀ (xs ys : List D), (zipD xs ys).length = min xs.length ys.length
  | [], ys => by simp [zipD]
  | x :: xs, [] => by simp [zipD]
  | x :: xs, y :: ys => by rw [zipD, List.length_cons, zipD_len xs ys, List.length_cons, List.length_cons]; omega
theorem zipD_get : ∀ (xs ys : List D) (i : Nat) (d : D), (zipD xs ys)[i]? = some d → ∃ x y, xs[i]? = some x ∧ ys[i]? = some y ∧ d = .tuple [x, y]
  | [], ys, _, _, h => by simp [zipD] at h
  | x :: xs, [], _, _, h => by simp [zipD] at h
  | x :: xs, y :: ys, 0, d, h => by
    simp [zipD] at h
    exact ⟨x, y, rfl, rfl, h.symm⟩
  | x :: xs, y :: ys, i + 1, d, h => by
    have h' : (zipD xs ys)[i]? = some d := by simpa [zipD] using h
    obtain ⟨a, b, h1, h2, h3⟩ := zipD_get xs ys i d h'
    exact ⟨a, b, by simpa using h1, by simpa using h2, h3⟩
theorem walk_zip {K : PySem.W.Frag} {O : List (Option Addr)} {H : Hp} {a b : Addr} {xs ys : List D} (r : Rp K (hd O H) (.ref a) (.list xs)) (r' : Rp K (hd O H) (.ref b) (.list ys)) : Walk K O H (Itz K a b) (zipD xs ys) := by
  intro i O2 cs2 H2 sb w2
  cases r with
  | lst q r =>
    cases r' with
    | lst q' r' =>
      have q2 : SqL K H2 a _ := ((q.mono sb).mono hd_le).sq
      have q3 : SqL K H2 b _ := ((q'.mono sb).mono hd_le).sq
      have r2 := r.mono sb
      have r3 := r'.mono sb
      refine ⟨fun hi => ⟨_, _, q2, q3, ?_⟩, fun d hd' => ?_⟩
      · rw [zipD_len] at hi
        rw [r2.length, r3.length]; omega
      · obtain ⟨x, y, hx, hy, rfl⟩ := zipD_get xs ys i d hd'
        obtain ⟨v, h1, h2⟩ := r2.get hx
        obtain ⟨u, h3, h4⟩ := r3.get hy
        refine ⟨⟨_, _, v, u, q2, q3, h1, h3⟩, fun z H3 hz => ?_⟩
        obtain ⟨T, v', u', rfl, hT, rfl, fx, fy⟩ := hz
        have e1 := fx _ q2
        have e2 := fy _ q3
        rw [h1] at e1; cases e1
        rw [h3] at e2; cases e2
        exact two_rp w2 hT h2 h4
theorem walk_zipT {K : PySem.W.Frag} {O : List (Option Addr)} {H : Hp} {a b : Addr} {xs ys : List D} (r : Rp K (hd O H) (.ref a) (.tuple xs)) (r' : Rp K (hd O H) (.ref b) (.tuple ys)) : Walk K O H (RZ.ItzT K a b) (zipD xs ys) := by
  intro i O2 cs2 H2 sb w2
  cases r with
  | tup q r =>
    cases r' with
    | tup q' r' =>
      have q2 : SqT K H2 a _ := sqT_mono hd_le (sqT_mono sb q)
      have q3 : SqT K H2 b _ := sqT_mono hd_le (sqT_mono sb q')
      have r2 := r.mono sb
      have r3 := r'.mono sb
      refine ⟨fun hi => ⟨_, _, q2, q3, ?_⟩, fun d hd' => ?_⟩
      · rw [zipD_len] at hi
        rw [r2.length, r3.length]; omega
      · obtain ⟨x, y, hx, hy, rfl⟩ := zipD_get xs ys i d hd'
        obtain ⟨v, h1, h2⟩ := r2.get hx
        obtain ⟨u, h3, h4⟩ := r3.get hy
        refine ⟨⟨_, _, v, u, q2, q3, h1, h3⟩, fun z H3 hz => ?_⟩
        obtain ⟨T, v', u', rfl, hT, rfl, fx, fy⟩ := hz
        have e1 := fx _ q2
        have e2 := fy _ q3
        rw [h1] at e1; cases e1
        rw [h3] at e2; cases e2
        exact two_rp w2 hT h2 h4
def iZp (fa : MA) : MI := fun ρ cs => (fa ρ cs).bind fun p => match p.1 with
  | [.dat (.list xs), .dat (.list ys)] => some (zipD xs ys, p.2)
  | [.dat (.tuple xs), .dat (.tuple ys)] => some (zipD xs ys, p.2)
  | _ => none
theorem xi_zip {e e2 : Expr} {fa : MA} {p pos tpos : Pos} {elts : List Expr} {kk : Nat} (hg : Gl X "zip") (hm : X.mg "zip" = none) (ha : XA X fa [e, e2])
    (hs : starEach [e, e2] X.env = (false, eval e X.env) :: starEach [e2] X.env := by rfl) (hpl : (backTo pos (starEach [e2] X.env)).any (·.1) = false := by rfl) :
    XI X (iZp fa) (.Tuple elts kk tpos) (.Call (.Name "zip" p) [e, e2] [] pos) :=
  pi_weak (RZ.pi_zipA hg hm ha hs hpl) fun σ H R ⟨ρ, O, cs, ds, cs', e0, en, w, p⟩ => by
    obtain ⟨⟨rs, cs1⟩, h1, h2⟩ := Option.bind_eq_some_iff.mp e0
    refine ⟨ρ, O, cs, rs, cs1, h1, en, w, fun vs H' c w' ra => ?_⟩
    dsimp only at h2
    split at h2
    · rename_i _ xs ys
      cases h2
      match vs, ra with
      | [v, u], ra =>
        have r1 : Rp X.K (DL.hd O H') v (.list xs) := ra.1
        have r2 : Rp X.K (DL.hd O H') u (.list ys) := ra.2.1
        have k1 := r1
        have k2 := r2
        cases r1 with
        | lst q rp =>
          cases r2 with
          | lst q' rp' => exact ⟨_, _, _, _, rfl, .inl ⟨(q.mono hd_le).sq, (q'.mono hd_le).sq, p _ H' c w' (walk_zip k1 k2)⟩⟩
      | [], ra => exact ra.elim
      | [_], ra => exact ra.2.elim
      | _ :: _ :: _ :: _, ra => exact ra.2.2.elim
    · rename_i _ xs ys
      cases h2
      match vs, ra with
      | [v, u], ra =>
        have r1 : Rp X.K (DL.hd O H') v (.tuple xs) := ra.1
        have r2 : Rp X.K (DL.hd O H') u (.tuple ys) := ra.2.1
        have k1 := r1
        have k2 := r2
        cases r1 with
        | tup q rp =>
          cases r2 with
          | tup q' rp' => exact ⟨_, _, _, _, rfl, .inr ⟨sqT_mono hd_le q, sqT_mono hd_le q', p _ H' c w' (walk_zipT k1 k2)⟩⟩
      | [], ra => exact ra.elim
      | [_], ra => exact ra.2.elim
      | _ :: _ :: _ :: _, ra => exact ra.2.2.elim
    · cases h2
end
end DL
namespace DL
open PySem PySem.Spec PyProof.Rows L2
section
variable {X : Cx}
/-! comprehensions -/
def wipeR (ρ : Rho) : List Nat → Rho
  | [] => ρ
  | v :: vs => (wipeR ρ vs).set v none
theorem EnvOk.wipe {K : PySem.W.Frag} {O : List (Option Addr)} {H : Hp} {ρ : Rho} {σ : L2.St} (e : EnvOk K O H ρ σ) : ∀ vs : List Nat, EnvOk K O H (wipeR ρ vs) (L2.wipe σ vs)
  | [] => e
  | v :: vs => by
    have ih := EnvOk.wipe e vs
    refine ⟨by simp [wipeR, L2.wipe, ih.len], fun j r hj => ?_⟩
    unfold wipeR at hj
    by_cases q : v = j
    · subst q
      have hv : v < (wipeR ρ vs).length := by
        have := (List.getElem?_eq_some_iff.mp hj).1
        simpa using this
      rw [List.getElem?_set_self hv] at hj
      cases hj
    · rw [List.getElem?_set_ne q] at hj
      obtain ⟨w, h1, h2⟩ := ih.slot j r hj
      exact ⟨w, by unfold L2.wipe; rw [List.getElem?_set_ne q]; exact h1, h2⟩
def XTs (X : Cx) (f : MT) (es : List Expr) : Prop := PTs X es (tXT X.K f)
theorem pts_weak {es : List Expr} {t t' : TT} (h : PTs X es t) (w : ∀ σ H Q, t' σ H Q → t σ H Q) : PTs X es t' := ⟨fun pins s σ H Q I q => h.run pins s σ H Q I (w _ _ _ q)⟩
def mYes : MT := fun _ cs => some (true, cs)
theorem xts_nil : XTs X mYes [] := pts_weak pts_nil fun σ H Q ⟨ρ, O, cs, b, cs', e, en, w, p⟩ => by
  cases e
  exact p H .refl w
theorem xts_one {c : Expr} {t : MT} (h : XT X t c) : XTs X t [c] := pts_one h
def compM (g : MG) (t : MT) (f : ME) : List D → Rho → Cs → List D → Option (List D × Cs)
  | [], _, cs, acc => some (acc, cs)
  | d :: ds, ρ, cs, acc => (g d ρ).bind fun ρ1 => (t ρ1 (cs ++ [some acc])).bind fun p => if p.1 = true then (f ρ1 p.2).bind fun q => match deg q.1, q.2[cs.length]? with
      | .dat e, some (some c) => if c.length < sizeLine then compM g t f ds ρ (q.2.take cs.length) (c ++ [e]) else none
      | _, _ => none
    else match p.2[cs.length]? with
      | some (some c) => compM g t f ds ρ (p.2.take cs.length) c
      | _ => none
def xComp (f : MI) (g : MG) (t : MT) (e : ME) (vs : List Nat) : ME := fun ρ cs => (f ρ cs).bind fun p => (compM g t e p.1 (wipeR ρ vs) p.2 []).map fun q => (.fr q.1, q.2)
theorem take_of {K : PySem.W.Frag} {O : List (Option Addr)} {p : Addr} {cs : Cs} {H : Hp} (w : Wd K (O ++ [some p]) cs H) : ∃ c, cs[O.length]? = some (some c) ∧ cs = cs.take O.length ++ [some c] := by
  obtain ⟨c, vs, h1, _, _⟩ := w.cell O.length p (by simp)
  have hl : cs.length = O.length + 1 := by rw [w.len]; simp
  refine ⟨c, h1, ?_⟩
  apply List.ext_getElem?
  intro i
  by_cases hi : i < O.length
  · rw [List.getElem?_append_left (by simp; omega), List.getElem?_take_of_lt hi]
  · by_cases he : i = O.length
    · subst he
      rw [List.getElem?_append_right (by simp; omega)]
      have : O.length - (cs.take O.length).length = 0 := by simp; omega
      rw [this, h1]; rfl
    · rw [List.getElem?_eq_none (by omega), List.getElem?_eq_none (by simp; omega)]
theorem wipe_wipe (σ : L2.St) (vs : List Nat) : L2.wipe (L2.wipe σ vs) vs = L2.wipe σ vs := by
  apply List.ext_getElem?
  intro j
  by_cases c : j ∈ vs ∧ j < σ.length
  · simp only [wipe_get, wipe_length, if_pos c]
  · simp only [wipe_get, wipe_length, if_neg c]
theorem set_take {cs : Cs} {n : Nat} {x : Option (List D)} (h : cs.length = n + 1) : cs.set n x = cs.take n ++ [x] := by
  apply List.ext_getElem?
  intro i
  by_cases hi : i < n
  · rw [List.getElem?_append_left (by simp; omega), List.getElem?_take_of_lt hi, List.getElem?_set_ne (by omega)]
  · by_cases he : i = n
    · subst he
      rw [List.getElem?_set_self (by omega), List.getElem?_append_right (by simp; omega)]
      have : i - (cs.take i).length = 0 := by simp; omega
      rw [this]; rfl
    · rw [List.getElem?_eq_none (by simp; omega), List.getElem?_eq_none (by simp; omega)]
theorem tLc_of {K : PySem.W.Frag} {f : MI} {g : MG} {t : MT} {e : ME} {vs : List Nat} {σ : L2.St} {H : Hp} {Q : VK} (h : tX K (xComp f g t e vs) σ H Q) : tLc (tI K f) (tG K vs g) (tXT K t) (tX K e) vs σ H Q := by
  obtain ⟨ρ, O, cs, r, cs', e0, en, w, p⟩ := h
  obtain ⟨⟨ds, cs1⟩, g1, e1⟩ := Option.bind_eq_some_iff.mp e0
  obtain ⟨⟨res, cs9⟩, g2, e2⟩ := Option.map_eq_some_iff.mp e1
  clear e0 e1
  cases e2
  refine ⟨ρ, O, cs, ds, cs1, g1, en, w, fun J H1 c1 w1 wk D hD => ?_⟩
  have hD0 : H D = none := w.new_of w1 c1 hD
  have ex0 : Ext 0 O (O ++ [some D]) H1 := ext_new (K := K) (Nat.zero_le _) hD
  have nD : D ∉ live O := w1.fresh hD
  have w0 : Wd K (O ++ [some D]) (cs1 ++ [some []]) (upd H1 D (.lst [])) := w1.newList hD .nil
  have cN : Ch O H1 (upd H1 D (.lst [])) := ch_new hD
  have en0 : EnvOk K (O ++ [some D]) (upd H1 D (.lst [])) (wipeR ρ vs) (L2.wipe σ vs) := EnvOk.ext (n0 := 0) ((en.ch c1).wipe vs) hD cN
  refine ⟨fun i m H' => m = ds.length - i ∧ i ≤ ds.length ∧ ∃ cs2 acc, compM g t e (ds.drop i) (wipeR ρ vs) cs2 acc = some (res, cs9) ∧ Wd K (O ++ [some D]) (cs2 ++ [some acc]) H' ∧ EnvOk K (O ++ [some D]) H' (wipeR ρ vs) (L2.wipe σ vs) ∧ Ch O H1 H', ⟨ds.length, by simp, Nat.zero_le _, cs1, [], g2, w0, en0, cN⟩, ?_⟩
  rintro i m H' ⟨rfl, hi', cs2, acc, e3, w', en', ch'⟩
  have sb : Sub O H1 (O ++ [some D]) H' := Sub.of ex0 ch'
  have hcs2 : cs2.length = O.length := by have := w'.len; simpa using this
  by_cases hlt : i < ds.length
  · have hd' : ds[i]? = some ds[i] := List.getElem?_eq_getElem hlt
    rw [List.drop_eq_getElem_cons hlt] at e3
    obtain ⟨ρ1, h1, e4⟩ := Option.bind_eq_some_iff.mp e3
    obtain ⟨⟨b, cs3⟩, h2, e5⟩ := Option.bind_eq_some_iff.mp e4
    clear e3 e4
    obtain ⟨go, yl⟩ := (wk i _ _ H' sb w').2 _ hd'
    refine .inr ⟨go, fun H2 => i + 1 ≤ ds.length ∧ ∃ cs2 acc, compM g t e (ds.drop (i + 1)) (wipeR ρ vs) cs2 acc = some (res, cs9) ∧ Wd K (O ++ [some D]) (cs2 ++ [some acc]) H2 ∧ EnvOk K (O ++ [some D]) H2 (wipeR ρ vs) (L2.wipe σ vs) ∧ Ch O H1 H2, fun H2 h2 => ⟨ds.length - (i + 1), by omega, rfl, h2⟩, fun x H3 hy => ?_⟩
    obtain ⟨c3, w3, r3⟩ := yl x H3 hy
    refine ⟨_, O ++ [some D], _, ds[i], ρ1, h1, r3, en'.ch c3, w3, fun σ4 en4 q4 => ⟨by rw [q4]; exact wipe_wipe σ vs, ?_⟩⟩
    refine ⟨ρ1, _, _, b, cs3, h2, en4, w3, fun H5 c5 w5 => ?_⟩
    cases b with
    | true =>
      obtain ⟨⟨r, cs4⟩, h6, e6⟩ := Option.bind_eq_some_iff.mp e5
      refine ⟨ρ1, _, cs3, r, cs4, h6, en4.ch c5, w5, fun v H6 c6 w6 rv => ?_⟩
      have rr := rv.deg
      obtain ⟨c, hc, ec⟩ := take_of w6
      dsimp only at e6
      rw [hcs2] at e6
      split at e6
      · rename_i d' c' hd2 hc2
        rw [hc] at hc2; cases hc2
        rw [hd2] at rr
        obtain ⟨hz, e7⟩ : c.length < sizeLine ∧ compM g t e (ds.drop (i + 1)) (wipeR ρ vs) (cs4.take O.length) (c ++ [d']) = some (res, cs9) := by
          by_cases hz : c.length < sizeLine
          · rw [if_pos hz] at e6; exact ⟨hz, e6⟩
          · rw [if_neg hz] at e6; cases e6
        obtain ⟨c0, vs0, k1, k2, k3⟩ := w6.cell O.length D (by simp)
        rw [hc] at k1; cases k1
        obtain ⟨w7, c7⟩ := w6.write (k := O.length) (a := D) (by simp) (k3.append (.cons (show Rp K (DL.hd _ H6) v d' from rr) .nil))
        refine ⟨vs0, k2, by rw [k3.length]; exact hz, hlt, cs4.take O.length, c ++ [d'], e7, ?_, ?_, ?_⟩
        · rw [← set_take (by rw [w6.len]; simp)]; exact w7
        · exact (((en'.ch c3).ch c5).ch c6).ch c7
        · exact (((ch'.ext ex0 c3).ext ex0 c5).ext ex0 c6).ext ex0 c7
      · cases e6
    | false =>
      obtain ⟨c, hc, ec⟩ := take_of w5
      have e6 : (match cs3[cs2.length]? with
        | some (some c) => compM g t e (ds.drop (i + 1)) (wipeR ρ vs) (cs3.take cs2.length) c
        | _ => none) = some (res, cs9) := e5
      rw [hcs2, hc] at e6
      refine ⟨hlt, cs3.take O.length, c, e6, by rw [← ec]; exact w5, (en'.ch c3).ch c5, (ch'.ext ex0 c3).ext ex0 c5⟩
  · have ei : i = ds.length := by omega
    subst ei
    rw [List.drop_length] at e3
    cases e3
    exact .inl ⟨(wk ds.length _ _ H' sb w').1 (Nat.le_refl _), p _ H' (c1.trans ch') w'.pop.1 ⟨D, rfl, hD0, w'⟩⟩
end
end DL
namespace DL
open PySem PySem.Spec PyProof.Rows L2
section
variable {X : Cx}
abbrev BlkX (X : Cx) (scope : Scope) (P : Cx → Prop) : Prop := ∀ (s : Shared) (H : Hp) (C : Addr) (cl : List (Str × Addr)) (fp : List Addr), P (X.blk s H scope (compEnvC scope cl C X.env) fp)
theorem xe_comp {elt tg iter : Expr} {ifs : List Expr} {scope : Scope} {own : List (Str × Nat)} {pos : Pos} {f : MI} {g : MG} {t : MT} {e : ME} (hc : X.calm = true) (hN : X.N.Nodup) (hi : XI X f tg iter) (ok : BlkOk X.N X.env.scope scope own)
    (hg : BlkX X scope fun Y => XG Y (own.map (·.2)) g tg) (ht : BlkX X scope fun Y => XTs Y t ifs) (he : BlkX X scope fun Y => XE Y e elt) (hs : ∀ x, foldedSetIterable iter X.env x = pure x := by intro _; rfl) :
    XE X (xComp f g t e (own.map (·.2))) (.ListComp elt [⟨tg, iter, ifs, 0⟩] scope pos) := (
    have hg' : ∀ (s : Shared) (H : Hp) (C : Addr) (cl : List (Str × Addr)) (fp : List Addr), PG (X.blk s H scope (compEnvC scope cl C X.env) fp) tg (tG X.K (own.map (·.2)) g) := hg
    have ht' : ∀ (s : Shared) (H : Hp) (C : Addr) (cl : List (Str × Addr)) (fp : List Addr), PTs (X.blk s H scope (compEnvC scope cl C X.env) fp) ifs (tXT X.K t) := ht
    have he' : ∀ (s : Shared) (H : Hp) (C : Addr) (cl : List (Str × Addr)) (fp : List Addr), PE (X.blk s H scope (compEnvC scope cl C X.env) fp) elt (tX X.K e) := he
    pe_weak (pe_lc hc hN hi ok hg' ht' he' hs) fun σ H Q h => tLc_of h)
theorem xs_setC {i : Nat} {y : Str} {py : Pos} {elt tg iter : Expr} {ifs : List Expr} {scope : Scope} {own : List (Str × Nat)} {pos spos : Pos} {f : MI} {g : MG} {t : MT} {e : ME} (hc : X.calm = true) (hN : X.N.Nodup) (hy : X.N[i]? = some y) (hyl : X.env.scope.names.lookup y = some .local)
    (hsw : swapsWith (.ListComp elt [⟨tg, iter, ifs, 0⟩] scope pos) (some (.Name y py)) spos.line X.env = pure true) (hi : XI X f tg iter) (ok : BlkOk X.N X.env.scope scope own)
    (hg : BlkX X scope fun Y => XG Y (own.map (·.2)) g tg) (ht : BlkX X scope fun Y => XTs Y t ifs) (he : BlkX X scope fun Y => XE Y e elt) (hs : ∀ x, foldedSetIterable iter X.env x = pure x := by intro _; rfl) :
    XS X (sSet i (xComp f g t e (own.map (·.2)))) (.Assign [.Name y py] (.ListComp elt [⟨tg, iter, ifs, 0⟩] scope pos) spos) :=
  (
    have hg' : ∀ (s : Shared) (H : Hp) (C : Addr) (cl : List (Str × Addr)) (fp : List Addr), PG (X.blk s H scope (compEnvC scope cl C X.env) fp) tg (tG X.K (own.map (·.2)) g) := hg
    have ht' : ∀ (s : Shared) (H : Hp) (C : Addr) (cl : List (Str × Addr)) (fp : List Addr), PTs (X.blk s H scope (compEnvC scope cl C X.env) fp) ifs (tXT X.K t) := ht
    have he' : ∀ (s : Shared) (H : Hp) (C : Addr) (cl : List (Str × Addr)) (fp : List Addr), PE (X.blk s H scope (compEnvC scope cl C X.env) fp) elt (tX X.K e) := he
    ps_weak (ps_setLc hc hN hy hyl hsw hi ok hg' ht' he' hs) fun D σ H h => tLc_of (tSet_of h))
theorem xs_ownC {i : Nat} {y : Str} {py : Pos} {elt tg iter : Expr} {ifs : List Expr} {scope : Scope} {own : List (Str × Nat)} {pos spos : Pos} {f : MI} {g : MG} {t : MT} {e : ME} (hc : X.calm = true) (hN : X.N.Nodup) (hy : X.N[i]? = some y) (hyl : X.env.scope.names.lookup y = some .local)
    (hsw : swapsWith (.ListComp elt [⟨tg, iter, ifs, 0⟩] scope pos) (some (.Name y py)) spos.line X.env = pure true) (hi : XI X f tg iter) (ok : BlkOk X.N X.env.scope scope own)
    (hg : BlkX X scope fun Y => XG Y (own.map (·.2)) g tg) (ht : BlkX X scope fun Y => XTs Y t ifs) (he : BlkX X scope fun Y => XE Y e elt) (hs : ∀ x, foldedSetIterable iter X.env x = pure x := by intro _; rfl) :
    XS X (sOwn i (xComp f g t e (own.map (·.2)))) (.Assign [.Name y py] (.ListComp elt [⟨tg, iter, ifs, 0⟩] scope pos) spos) :=
  (
    have hg' : ∀ (s : Shared) (H : Hp) (C : Addr) (cl : List (Str × Addr)) (fp : List Addr), PG (X.blk s H scope (compEnvC scope cl C X.env) fp) tg (tG X.K (own.map (·.2)) g) := hg
    have ht' : ∀ (s : Shared) (H : Hp) (C : Addr) (cl : List (Str × Addr)) (fp : List Addr), PTs (X.blk s H scope (compEnvC scope cl C X.env) fp) ifs (tXT X.K t) := ht
    have he' : ∀ (s : Shared) (H : Hp) (C : Addr) (cl : List (Str × Addr)) (fp : List Addr), PE (X.blk s H scope (compEnvC scope cl C X.env) fp) elt (tX X.K e) := he
    ps_weak (ps_setLc hc hN hy hyl hsw hi ok hg' ht' he' hs) fun D σ H h => tLc_of (tOwn_of h))
end

/-! ### defs -/
abbrev MF := List Rv → Cs → Option (Rv × Cs)
/-- the def at f does as m says (m: the arguments, the cells) -/
structure FnD (P : Program) (w : World) (K : PySem.W.Frag) (mg : Str → Option Value) (base : Heap) (k : Nat) (f : Addr) (fd : FuncData) (ps : List Str) (m : MF) : Prop where
  run : ∀ (A : Around) (outer : List Env) (s : Shared) (H : Hp) (args : Args) (us : List Value) (vs : List V) (Q : VK) (rs : List Rv) (O : List (Option Addr)) (cs : Cs) (r : Rv) (cs' : Cs),
    A.guards = some [] → base.NoDigits → Room k A → Env0 P w K mg base A outer s H → BindsTo s fd args (ps.zip us) → Vals vs us → vs.length = ps.length → Wd K O cs H → ArRs K O H rs vs → m rs cs = some (r, cs') → PostX K O H r cs' Q →
    codeAny (model P w) A (.call (.ref f) args) (CR CX0 outer P w H s Q E0) s
theorem FnD.mono {P : Program} {w : World} {K : PySem.W.Frag} {mg : Str → Option Value} {base : Heap} {j k : Nat} {f : Addr} {fd : FuncData} {ps : List Str} {m : MF} (F : FnD P w K mg base j f fd ps m) (h : j ≤ k) : FnD P w K mg base k f fd ps m :=
  ⟨fun A outer s H args us vs Q rs O cs r cs' hg hn hr => F.run A outer s H args us vs Q rs O cs r cs' hg hn (hr.mono h)⟩
theorem FnD.imp {P : Program} {w : World} {K : PySem.W.Frag} {mg : Str → Option Value} {base : Heap} {k : Nat} {f : Addr} {fd : FuncData} {ps : List Str} {m m' : MF} (F : FnD P w K mg base k f fd ps m) (h : ∀ rs cs r, m' rs cs = some r → m rs cs = some r) : FnD P w K mg base k f fd ps m' :=
  ⟨fun A outer s H args us vs Q rs O cs r cs' hg hn hr e b v l wd a em p => F.run A outer s H args us vs Q rs O cs r cs' hg hn hr e b v l wd a (h _ _ _ em) p⟩
/-- a def's mirror from its body's -/
def fnM (n : Nat) (b : MS) : MF := fun rs cs => (b cs.length (rs.map some ++ List.replicate (n - rs.length) none) cs).bind fun o => match o with
  | .rt (.dat d) cs' => some (.dat d, cs'.take cs.length)
  | .rt (.own k) cs' => if cs.length ≤ k then (match cs'[k]? with
    | some (some c) => some (.fr c, cs'.take cs.length)
    | _ => none) else none
  | .nx _ cs' => some (.dat .none, cs'.take cs.length)
  | _ => none
theorem live_take {O : List (Option Addr)} {n : Nat} {a : Addr} (h : a ∈ live (O.take n)) : a ∈ live O := by
  obtain ⟨i, q⟩ := mem_live.mp h
  have hi : i < n := by
    have := (List.getElem?_eq_some_iff.mp q).1
    simp at this; omega
  rw [List.getElem?_take_of_lt hi] at q
  exact mem_live.mpr ⟨i, q⟩
theorem Wd.take {K : PySem.W.Frag} {O : List (Option Addr)} {cs : Cs} {H : Hp} (w : Wd K O cs H) (n : Nat) : Wd K (O.take n) (cs.take n) H := by
  have sb : ∀ a o, hd O H a = some o → hd (O.take n) H a = some o := fun a o h => by
    obtain ⟨m, e⟩ := hd_some h
    exact hd_of (fun z => m (live_take z)) e
  have get : ∀ {α : Type} {l : List α} {i : Nat} {x : α}, (l.take n)[i]? = some x → i < n ∧ l[i]? = some x := fun {α l i x} q => by
    have hi : i < n := by
      have := (List.getElem?_eq_some_iff.mp q).1
      simp at this; omega
    rw [List.getElem?_take_of_lt hi] at q
    exact ⟨hi, q⟩
  refine ⟨by simp [w.len], fun i j a h1 h2 => w.inj i j a (get h1).2 (get h2).2, fun i a h => ?_, fun i h => ?_⟩
  · obtain ⟨hi, q⟩ := get h
    obtain ⟨c, vs, h1, h2, h3⟩ := w.cell i a q
    exact ⟨c, vs, by rw [List.getElem?_take_of_lt hi]; exact h1, h2, h3.mono sb⟩
  · obtain ⟨hi, q⟩ := get h
    rw [List.getElem?_take_of_lt hi]; exact w.ded i q
theorem Ext.take_eq {n0 : Nat} {O O' : List (Option Addr)} {H : Hp} (e : Ext n0 O O' H) (h : n0 = O.length) : O'.take n0 = O := by
  apply List.ext_getElem?
  intro i
  by_cases hi : i < n0
  · rw [List.getElem?_take_of_lt hi]; exact e.pre i hi
  · rw [List.getElem?_eq_none (by simp; omega), List.getElem?_eq_none (by omega)]
/-- the result of a body, for the caller -/
theorem body_end {K : PySem.W.Frag} {O O' : List (Option Addr)} {cs cs' : Cs} {H H' : Hp} {r r0 : Rv} {v : V} (w : Wd K O cs H) (ex : Ext cs.length O O' H) (c : Ch O H H') (w' : Wd K O' cs' H') (ar : ArR K O' r0 v H')
    (h : (∃ d, r0 = .dat d ∧ r = .dat d) ∨ ∃ k l, r0 = .own k ∧ cs.length ≤ k ∧ cs'[k]? = some (some l) ∧ r = .fr l) : Wd K O (cs'.take cs.length) H' ∧ RvR K O H (cs'.take cs.length) r v H' := by
  have eO : O'.take cs.length = O := ex.take_eq w.len
  have w2 := w'.take cs.length
  rw [eO] at w2
  have sb : ∀ a o, hd O' H' a = some o → hd O H' a = some o := fun a o q => by
    obtain ⟨m, e⟩ := hd_some q
    exact hd_of (fun z => m (live_take (n := cs.length) (by rw [eO]; exact z))) e
  refine ⟨w2, ?_⟩
  rcases h with ⟨d, rfl, rfl⟩ | ⟨k, l, rfl, hk, hl, rfl⟩
  · exact Rp.mono sb ar
  · obtain ⟨p, rfl, hp⟩ := ar
    obtain ⟨l', vs, h1, h2, h3⟩ := w'.cell k p hp
    rw [hl] at h1; cases h1
    have np : p ∉ live O := fun z => by
      obtain ⟨i, q⟩ := mem_live.mp z
      have hi : i < cs.length := by rw [w.len]; exact (List.getElem?_eq_some_iff.mp q).1
      have q' : O'[i]? = some (some p) := by rw [ex.pre i hi]; exact q
      have := w'.inj i k p q' hp
      omega
    have hn : H p = none := by
      rcases ex.sub p (mem_live.mpr ⟨k, hp⟩) with z | z
      · exact absurd z np
      · exact z
    refine ⟨p, rfl, hn, ?_⟩
    have hlen : (cs'.take cs.length).length = O.length := w2.len
    have sp : ∀ {i : Nat} {x : Option Addr}, (O ++ [some p])[i]? = some x → (i < O.length ∧ O[i]? = some x ∧ O'[i]? = some x) ∨ (i = O.length ∧ x = some p) := fun {i x} q => by
      by_cases hi : i < O.length
      · rw [List.getElem?_append_left hi] at q
        exact .inl ⟨hi, q, by rw [ex.pre i (by rw [w.len]; exact hi)]; exact q⟩
      · rw [List.getElem?_append_right (by omega)] at q
        have h0 : i - O.length = 0 := by
          have := (List.getElem?_eq_some_iff.mp q).1
          simp at this; omega
        rw [h0] at q
        simp at q
        exact .inr ⟨by omega, q.symm⟩
    have sb2 : ∀ a o, hd O' H' a = some o → hd (O ++ [some p]) H' a = some o := fun a o q => by
      obtain ⟨m, e⟩ := hd_some q
      refine hd_of (fun z => ?_) e
      obtain ⟨i, q2⟩ := mem_live.mp z
      rcases sp q2 with ⟨_, _, q3⟩ | ⟨_, q3⟩
      · exact m (mem_live.mpr ⟨i, q3⟩)
      · cases q3; exact m (mem_live.mpr ⟨k, hp⟩)
    refine ⟨by simp [hlen], fun i j a a1 a2 => ?_, fun i a a1 => ?_, fun i a1 => ?_⟩
    · rcases sp a1 with ⟨i1, i2, _⟩ | ⟨i1, i2⟩ <;> rcases sp a2 with ⟨j1, j2, _⟩ | ⟨j1, j2⟩
      · exact w.inj i j a i2 j2
      · cases j2; exact absurd (mem_live.mpr ⟨i, i2⟩) np
      · cases i2; exact absurd (mem_live.mpr ⟨j, j2⟩) np
      · omega
    · rcases sp a1 with ⟨i1, i2, i3⟩ | ⟨i1, i2⟩
      · obtain ⟨c', vs', q1, q2, q3⟩ := w'.cell i a i3
        refine ⟨c', vs', ?_, q2, q3.mono sb2⟩
        rw [List.getElem?_append_left (by rw [hlen]; exact i1), List.getElem?_take_of_lt (by rw [w.len]; exact i1)]
        exact q1
      · cases i2
        refine ⟨l, vs, ?_, h2, h3.mono sb2⟩
        rw [i1, ← hlen]; simp
    · rcases sp a1 with ⟨i1, i2, i3⟩ | ⟨i1, i2⟩
      · rw [List.getElem?_append_left (by rw [hlen]; exact i1)]
        exact w2.ded i i2
      · cases i2
theorem start_env {K : PySem.W.Frag} {O : List (Option Addr)} {H : Hp} {N : List Str} : ∀ {rs : List Rv} {vs : List V}, ArRs K O H rs vs → EnvOk K O H (rs.map some ++ List.replicate (N.length - rs.length) none) (L2.start N vs) := fun {rs vs} h => by
  have hl := h.length
  unfold L2.start
  refine ⟨by simp [hl], fun i r hi => ?_⟩
  by_cases c : i < rs.length
  · rw [List.getElem?_append_left (by simpa using c), List.getElem?_map] at hi
    rw [List.getElem?_append_left (by simp; omega), List.getElem?_map]
    have : ∀ {rs : List Rv} {vs : List V} {i : Nat} {r : Rv}, ArRs K O H rs vs → rs[i]? = some r → ∃ v, vs[i]? = some v ∧ ArR K O r v H := by
      intro rs
      induction rs with
      | nil => intro vs i r _ e; simp at e
      | cons r0 rs ih =>
        intro vs i r a e
        cases vs with
        | nil => exact a.elim
        | cons v vs =>
          cases i with
          | zero => simp at e; subst e; exact ⟨v, rfl, a.1⟩
          | succ i =>
            obtain ⟨u, h1, h2⟩ := ih a.2 (by simpa using e)
            exact ⟨u, by simpa using h1, h2⟩
    cases q : rs[i]? with
    | none => rw [q] at hi; cases hi
    | some r1 =>
      rw [q] at hi
      cases hi
      obtain ⟨v, h1, h2⟩ := this h q
      exact ⟨v, by rw [h1]; rfl, h2⟩
  · rw [List.getElem?_append_right (by simpa using c), List.getElem?_replicate] at hi
    split at hi <;> cases hi
/-- the context of a body -/
abbrev cxD (P : Program) (w : World) (K : PySem.W.Frag) (mg : Str → Option Value) (base : Heap) (N : List Str) (qual : Str) (scope : Scope) (f : Addr) (cdv : Value) (A : Around) (outer : List Env) (s : Shared) (H : Hp) : Cx :=
  (cxOf CX0 P w K mg base N qual scope f cdv A outer s H E0).nox
theorem fnD_of {P : Program} {w : World} {K : PySem.W.Frag} {mg : Str → Option Value} {base : Heap} {k : Nat} {f : Addr} {x qual : Str} {params : Arguments} {body : List Stmt} {scope : Scope} {dvs : List V} {kws : List (Str × V)} {fd : FuncData} {N ps : List Str} {b : MS}
    (F : FunD K x qual params body scope dvs kws f fd) (S : FnScope N ps scope)
    (hb : ∀ (cdv : Value) (A : Around) (outer : List Env) (s : Shared) (H : Hp), Room k (A.deeper (envOfC qual scope s.heap.objs.size f cdv)) → Rm (cxD P w K mg base N qual scope f cdv A outer s H) → XSs (cxD P w K mg base N qual scope f cdv A outer s H) b body) :
    FnD P w K mg base (k + 1) f fd ps (fnM N.length b) := by
  obtain ⟨oc, od, dV, kV, doc, pm, an, cdv, ct, osl, rfl, lk, hcd, _, _⟩ := F.ex
  refine ⟨fun A outer s H args us vs Q rs O cs r cs' hg hnd hr e0 hbd rv hl wd ar em p => ?_⟩
  have KX : K.In s.heap := e0.mod.kin.keeps fun a o e => (e0.bs a o e).1
  have lim : s.heap.NoLimit := e0.mod.nolimit.keeps fun a o e => (e0.bs a o e).1
  refine codeAny_call_function hr.depth (KX _ _ lk) rfl S.co S.gen rfl (PySem.W.codeRec_of KX hcd) (hbd _ _ _ _ ?_)
  refine wpAny_newFunctionEnv_cells S.kind (fun y hy => ?_) fun env he s1 xx => ?_
  · rcases S.par y.1 (List.of_mem_zip hy).1 with q | q
    · exact .inl q
    · exact .inr ⟨q, PySem.W.cellsFrom_some _ _ _ (.inl q)⟩
  · subst he
    refine ⟨lim.keeps xx.toInCall.keep, codeAny_func ?_⟩
    have I := inv_start (CX := CX0) (E := E0) (qual := qual) (f := f) (cd := cdv) (outer := outer) S hr.hd e0 hl rv xx
    have hr' := hr.deeper (envOfC qual scope s.heap.objs.size f cdv)
    have rm : Rm (cxD P w K mg base N qual scope f cdv A outer s H) := ⟨hr.hd, by
      have := hr'.un
      show (A.deeper (envOfC qual scope s.heap.objs.size f cdv)).units + 200 < cLine
      omega, by show A.guards = some []; exact hg, rfl, hnd⟩
    have hbody := PSs.nox (hb cdv A outer s H hr' rm)
    unfold fnM at em
    obtain ⟨o, h1, h2⟩ := Option.bind_eq_some_iff.mp em
    have hpost : PostS K cs.length O H o { nx := fun _ H' => Q .non H', rt := Q } := by
      cases o with
      | rt r0 cs1 =>
        intro v O' H' ex c w' ar'
        cases r0 with
        | dat d =>
          cases h2
          obtain ⟨a1, a2⟩ := body_end (r := .dat d) wd ex c w' ar' (.inl ⟨d, rfl, rfl⟩)
          exact p v H' c a1 a2
        | own j =>
          have h3 : (if cs.length ≤ j then (match cs1[j]? with
            | some (some c) => some (Rv.fr c, cs1.take cs.length)
            | _ => none) else none) = some (r, cs') := h2
          by_cases hj : cs.length ≤ j
          · rw [if_pos hj] at h3
            split at h3
            · rename_i l hl'
              cases h3
              obtain ⟨a1, a2⟩ := body_end (r := .fr l) wd ex c w' ar' (.inr ⟨j, l, rfl, hj, hl', rfl⟩)
              exact p v H' c a1 a2
            · cases h3
          · rw [if_neg hj] at h3; cases h3
        | fr l => cases h2
        | exn nm d => cases h2
      | nx ρ1 cs1 =>
        cases h2
        intro σ' O' H' ex c en' w'
        obtain ⟨a1, a2⟩ := body_end (r0 := .dat .none) (r := .dat .none) (v := .non) wd ex c w' .non (.inl ⟨_, rfl, rfl⟩)
        exact p .non H' c a1 a2
      | bk _ _ => cases h2
      | ct _ _ => cases h2
    refine wpAny_mono (hbody.run [] s1 (L2.start N vs) H { nx := fun _ H' => Q .non H', rt := Q } I ⟨cs.length, _, O, cs, o, h1, by rw [wd.len]; exact Nat.le_refl _, start_env ar, wd, hpost⟩) (fun fl s' hs => ?_) fun e s' hs => hs
    cases fl with
    | ret u =>
      obtain ⟨v, σ', H', J, rv', q⟩ := hs
      exact ⟨v, H', J.os, J.bare, J.base, J.hok, rv', q⟩
    | next =>
      obtain ⟨σ', H', J, q⟩ := hs
      exact ⟨V.non, H', J.os, J.bare, J.base, J.hok, rfl, q⟩
    | brk =>
      obtain ⟨_, _, _, q⟩ := hs
      exact q.elim
    | cont =>
      obtain ⟨_, _, _, q⟩ := hs
      exact q.elim
/-! calls -/
section
variable {X : Cx}
def mCallF (n : Nat) (m : MF) (fa : MA) : ME := fun ρ cs => (fa ρ cs).bind fun p => if p.1.length = n then m p.1 p.2 else none
theorem fnD_call {k : Nat} {f : Addr} {fd : FuncData} {ps : List Str} {m : MF} {pins : List (Addr × Obj)} {σ : L2.St} {H : Hp} {s : Shared} {Q : VK} {args : Args} {us : List Value} {vs : List V} {rs : List Rv} {O : List (Option Addr)} {cs cs' : Cs} {r : Rv} (F : FnD X.prog X.w X.K X.mg X.base k f fd ps m) (hr : Room k X.A) (hg : X.A.guards = some []) (hnd : X.base.NoDigits)
    (I : Inv X pins σ H s) (hb : BindsTo s fd args (ps.zip us)) (rv : Vals vs us) (hl : vs.length = ps.length) (wd : Wd X.K O cs H) (ar : ArRs X.K O H rs vs) (em : m rs cs = some (r, cs')) (p : PostX X.K O H r cs' Q) :
    codeAny (model X.prog X.w) X.A (.call (.ref f) args) (fun r s' => match r with
      | .ok (.ret u) => EP X pins σ Q u s'
      | .ok _ => False
      | .error e => X.xe e s') s := by
  refine codeAny_mono (F.run X.A X.stack s H args us vs Q rs O cs r cs' hg hnd hr I.env0 hb rv hl wd ar em p) fun res s' hq => ?_
  cases res with
  | error e => exact hq.elim
  | ok fl =>
    cases fl with
    | ret u => exact I.after hq
    | next => exact hq
    | brk => exact hq
    | cont => exact hq
end
end DL
namespace DL
open PySem PySem.Spec PyProof.Rows L2
def ArgP (K : PySem.W.Frag) (O : List (Option Addr)) (H : Hp) (cs1 : Cs) (rs : List Rv) (vs : List V) (H' : Hp) : Prop := Ch O H H' ∧ Wd K O cs1 H' ∧ ArRs K O H' rs vs
section
variable {X : Cx}
theorem ite_none {α : Type} {c : Prop} [Decidable c] {a : Option α} {b : α} (h : (if c then a else none) = some b) : c ∧ a = some b := by
  split at h
  · exact ⟨by assumption, h⟩
  · cases h
theorem call_end {k : Nat} {f : Addr} {fd : FuncData} {ps : List Str} {m : MF} {pins : List (Addr × Obj)} {σ : L2.St} {H : Hp} {s : Shared} {Q : VK} {us : List Value} {kw : List (Str × Value)} {us2 : List Value} {vs : List V} {rs : List Rv} {O : List (Option Addr)} {cs cs' : Cs} {r : Rv} (F : FnD X.prog X.w X.K X.mg X.base k f fd ps m) (hr : Room k X.A) (hg : X.A.guards = some []) (hnd : X.base.NoDigits)
    (I : Inv X pins σ H s) (hb : BindsTo s fd ⟨us, kw⟩ (ps.zip us2)) (rv : Vals vs us2) (hl : rs.length = ps.length) (wd : Wd X.K O cs H) (ar : ArRs X.K O H rs vs) (em : m rs cs = some (r, cs')) (p : PostX X.K O H r cs' Q) :
    wpAny (model X.prog X.w) X.A (call (.ref f) us kw) (EP X pins σ Q) X.xe s := by
  refine wpAny_call (codeAny_mono (fnD_call F hr hg hnd I hb rv (by rw [← ar.length]; exact hl) wd ar em p) fun r s' hq => ?_)
  cases r with
  | error e => exact hq
  | ok fl => cases fl with
    | ret u => exact hq
    | next => exact hq
    | brk => exact hq
    | cont => exact hq
theorem xe_call {k : Nat} {f : Addr} {fd : FuncData} {ps : List Str} {m : MF} {x : Str} {e : Expr} {es : List Expr} {fa : MA} {p pos : Pos} (F : FnD X.prog X.w X.K X.mg X.base k f fd ps m) (hr : Room k X.A) (rm : Rm X) (hg : Gl X x) (hm : X.mg x = some (.ref f)) (hk : PySem.W.keepIn X.K (.ref f) = true)
    (hb : Binds X.K fd ps []) (ha : XA X fa (e :: es)) (hdb : (x == ("__debug__" : Str)) = false := by decide)
    (he : starEach (e :: es) X.env = (false, eval e X.env) :: starEach es X.env := by rfl) (hpl : (backTo pos (starEach es X.env)).any (·.1) = false := by rfl) : XE X (mCallF ps.length m fa) (.Call (.Name x p) (e :: es) [] pos) := by
  refine ⟨fun pins s σ H Q I ⟨ρ, O, cs, r, cs', e0, en, w, pq⟩ => ?_⟩
  obtain ⟨⟨rs, cs1⟩, h1, h2⟩ := Option.bind_eq_some_iff.mp e0
  obtain ⟨hl, em⟩ := ite_none h2
  refine wpAny_Call_Name_kw (ld_glob I hg hm ?_ hdb)
  have hrun := ha.run pos pins s σ H (ArgP X.K O H cs1 rs) I ⟨ρ, O, cs, rs, cs1, h1, en, w, fun vs H' c w' ra => ⟨c, w', ra⟩⟩
  refine PySem.W.callWith_K (h₀ := X.base) I.ok.mod.kin hk (thn hrun fun us s1 hus => ?_) he hpl
  obtain ⟨vs, H1, I1, rv, c1, w1, ra⟩ := hus
  refine ⟨I1.kIn, ?_⟩
  have hb' := hb s1 us I1.kIn (by rw [List.append_nil, ← rv.length, ← ra.length]; exact hl)
  rw [List.append_nil] at hb'
  exact call_end F hr rm.gd rm.nd I1 hb' rv hl w1 ra em (pq.step c1 w1)
theorem xe_call0 {k : Nat} {f : Addr} {fd : FuncData} {ps : List Str} {m : MF} {x : Str} {p pos : Pos} (F : FnD X.prog X.w X.K X.mg X.base k f fd ps m) (hr : Room k X.A) (rm : Rm X) (hg : Gl X x) (hm : X.mg x = some (.ref f)) (hk : PySem.W.keepIn X.K (.ref f) = true)
    (hb : Binds X.K fd ps []) (hdb : (x == ("__debug__" : Str)) = false := by decide) : XE X (mCallF ps.length m aNil) (.Call (.Name x p) [] [] pos) := by
  refine ⟨fun pins s σ H Q I ⟨ρ, O, cs, r, cs', e0, en, w, pq⟩ => ?_⟩
  obtain ⟨⟨rs, cs1⟩, h1, h2⟩ := Option.bind_eq_some_iff.mp e0
  cases h1
  obtain ⟨hl, em⟩ := ite_none h2
  refine wpAny_Call_Name_kw (ld_glob I hg hm ?_ hdb)
  have hb' := hb s [] I.kIn (by simpa using hl)
  exact PySem.W.callWith_K0 I.kIn hk (call_end F hr rm.gd rm.nd I hb' .nil hl w trivial em pq)
/-! keywords -/
def pick {α : Type} (π : List Nat) (l : List α) : List α := π.filterMap fun i => l[i]?
theorem pick_vals {π : List Nat} {vs : List V} {us : List Value} (h : Vals vs us) : Vals (pick π vs) (pick π us) := by
  induction π with
  | nil => exact .nil
  | cons i π ih =>
    unfold pick at ih ⊢
    rw [List.filterMap_cons, List.filterMap_cons]
    cases q : vs[i]? with
    | none => rw [h.none_of q]; exact ih
    | some v =>
      obtain ⟨u, h1, h2⟩ := h.get q
      rw [h1]
      exact .cons h2 ih
theorem ArRs.get {K : PySem.W.Frag} {O : List (Option Addr)} {H : Hp} : ∀ {rs : List Rv} {vs : List V}, ArRs K O H rs vs → ∀ i : Nat, (rs[i]? = none ∧ vs[i]? = none) ∨ ∃ r v, rs[i]? = some r ∧ vs[i]? = some v ∧ ArR K O r v H
  | [], [], _, i => .inl ⟨by simp, by simp⟩
  | r :: rs, v :: vs, h, 0 => .inr ⟨r, v, rfl, rfl, h.1⟩
  | r :: rs, v :: vs, h, i + 1 => by
    rcases ArRs.get h.2 i with ⟨a, b⟩ | ⟨a, b, c, d, e⟩
    · exact .inl ⟨by simpa using a, by simpa using b⟩
    · exact .inr ⟨a, b, by simpa using c, by simpa using d, e⟩
  | [], _ :: _, h, _ => h.elim
  | _ :: _, [], h, _ => h.elim
theorem pick_ar {K : PySem.W.Frag} {O : List (Option Addr)} {H : Hp} {π : List Nat} {rs : List Rv} {vs : List V} (h : ArRs K O H rs vs) : ArRs K O H (pick π rs) (pick π vs) := by
  induction π with
  | nil => exact trivial
  | cons i π ih =>
    unfold pick at ih ⊢
    rw [List.filterMap_cons, List.filterMap_cons]
    rcases h.get i with ⟨a, b⟩ | ⟨r, v, a, b, c⟩
    · rw [a, b]; exact ih
    · rw [a, b]; exact ⟨c, ih⟩
theorem ArRs.append {K : PySem.W.Frag} {O : List (Option Addr)} {H : Hp} : ∀ {rs ss : List Rv} {vs us : List V}, ArRs K O H rs vs → ArRs K O H ss us → ArRs K O H (rs ++ ss) (vs ++ us)
  | [], _, [], _, _, b => b
  | _ :: _, _, _ :: _, _, a, b => ⟨a.1, ArRs.append a.2 b⟩
  | [], _, _ :: _, _, a, _ => a.elim
  | _ :: _, _, [], _, a, _ => a.elim
/-- us by position, then ks: in the parameters' order by π -/
structure KwB (K : PySem.W.Frag) (fd : FuncData) (ps : List Str) (n : Nat) (ks : List Str) (π : List Nat) : Prop where
  to : ∀ (s : Shared) (us ws : List Value), K.In s.heap → us.length = n → ws.length = ks.length → BindsTo s fd ⟨us, ks.zip ws⟩ (ps.zip (pick π (us ++ ws)))
def XK (X : Cx) (f : MA) (kws : List Keyword) : Prop := PK X kws (tXA X.K f)
theorem pk_weak {es : List Keyword} {t t' : TA} (h : PK X es t) (w : ∀ σ H Q, t' σ H Q → t σ H Q) : PK X es t' := ⟨fun pos pins s σ H Q I q => h.run pos pins s σ H Q I (w _ _ _ q)⟩
theorem xk_nil : XK X aNil [] := pk_weak pk_nil fun σ H Q ⟨ρ, O, cs, rs, cs', e, en, w, p⟩ => by
  cases e
  exact p [] H .refl w trivial
theorem xk_cons {nm : Option Str} {e : Expr} {kpos : Pos} {kws : List Keyword} {fa : ME} {fr : MA} (ha : XE X fa e) (hr : XK X fr kws) : XK X (aCons fa fr) (⟨nm, e, kpos⟩ :: kws) := pk_weak (pk_cons ha hr) fun σ H Q h => tCons_of h
def mCallK (n k q : Nat) (π : List Nat) (m : MF) (fa fk : MA) : ME := fun ρ cs => (fa ρ cs).bind fun p => (fk ρ p.2).bind fun z => if p.1.length = n ∧ z.1.length = k ∧ (pick π (p.1 ++ z.1)).length = q then m (pick π (p.1 ++ z.1)) z.2 else none
theorem xe_callK {k n : Nat} {ks : List Str} {π : List Nat} {f : Addr} {fd : FuncData} {ps : List Str} {m : MF} {x : Str} {e : Expr} {es : List Expr} {kws : List Keyword} {fa fk : MA} {p pos : Pos} (F : FnD X.prog X.w X.K X.mg X.base k f fd ps m) (hr : Room k X.A) (rm : Rm X) (hg : Gl X x) (hm : X.mg x = some (.ref f)) (hk : PySem.W.keepIn X.K (.ref f) = true)
    (hb : KwB X.K fd ps n ks π) (ha : XA X fa (e :: es)) (hkw : XK X fk kws) (hall : (backToKw pos (keywordEach kws X.env)).all (·.1.isSome) = true := by rfl) (hks : (backToKw pos (keywordEach kws X.env)).filterMap (·.1) = ks := by rfl)
    (hdb : (x == ("__debug__" : Str)) = false := by decide) (he : starEach (e :: es) X.env = (false, eval e X.env) :: starEach es X.env := by rfl)
    (hpl : ((backTo pos (starEach (e :: es) X.env)).any (·.1) || (backToKw pos (keywordEach kws X.env)).any (·.1.isNone)) = false := by rfl) : XE X (mCallK n ks.length ps.length π m fa fk) (.Call (.Name x p) (e :: es) kws pos) := by
  refine ⟨fun pins s σ H Q I ⟨ρ, O, cs, r, cs', e0, en, w, pq⟩ => ?_⟩
  obtain ⟨⟨rs, cs1⟩, h1, e1⟩ := Option.bind_eq_some_iff.mp e0
  obtain ⟨⟨zs, cs2⟩, h2, e2⟩ := Option.bind_eq_some_iff.mp e1
  obtain ⟨hl, em⟩ := ite_none e2
  refine wpAny_Call_Name_kw (ld_glob I hg hm ?_ hdb)
  have hrun := ha.run pos pins s σ H (ArgP X.K O H cs1 rs) I ⟨ρ, O, cs, rs, cs1, h1, en, w, fun vs H' c w' ra => ⟨c, w', ra⟩⟩
  refine PySem.W.callWith_KW (h₀ := X.base) I.ok.mod.kin hk hall (thn hrun fun us s1 hus => ?_) hpl he
  obtain ⟨vs, H1, I1, rv, c1, w1, ra⟩ := hus
  have hrun2 := hkw.run pos pins s1 σ H1 (ArgP X.K O H1 cs2 zs) I1 ⟨ρ, O, cs1, zs, cs2, h2, en.ch c1, w1, fun vs H' c w' ra => ⟨c, w', ra⟩⟩
  refine thn hrun2 fun ws s2 hws => ?_
  obtain ⟨ys, H2, I2, rz, c2, w2, rb⟩ := hws
  refine ⟨I2.kIn, ?_⟩
  rw [hks]
  have hb' := hb.to s2 us ws I2.kIn (by rw [← rv.length, ← ra.length]; exact hl.1) (by rw [← rz.length, ← rb.length]; exact hl.2.1)
  exact call_end F hr rm.gd rm.nd I2 hb' (pick_vals (rv.append rz)) hl.2.2 w2 (pick_ar ((ra.ch c2).append rb)) em (pq.step (c1.trans c2) w2)
theorem xe_callK0 {k : Nat} {ks : List Str} {π : List Nat} {f : Addr} {fd : FuncData} {ps : List Str} {m : MF} {x : Str} {kws : List Keyword} {fk : MA} {p pos : Pos} (F : FnD X.prog X.w X.K X.mg X.base k f fd ps m) (hr : Room k X.A) (rm : Rm X) (hg : Gl X x) (hm : X.mg x = some (.ref f)) (hk : PySem.W.keepIn X.K (.ref f) = true)
    (hb : KwB X.K fd ps 0 ks π) (hkw : XK X fk kws) (hall : (backToKw pos (keywordEach kws X.env)).all (·.1.isSome) = true := by rfl) (hks : (backToKw pos (keywordEach kws X.env)).filterMap (·.1) = ks := by rfl)
    (hdb : (x == ("__debug__" : Str)) = false := by decide)
    (hpl : ((backTo pos (starEach [] X.env)).any (·.1) || (backToKw pos (keywordEach kws X.env)).any (·.1.isNone)) = false := by rfl) : XE X (mCallK 0 ks.length ps.length π m aNil fk) (.Call (.Name x p) [] kws pos) := by
  refine ⟨fun pins s σ H Q I ⟨ρ, O, cs, r, cs', e0, en, w, pq⟩ => ?_⟩
  obtain ⟨⟨rs, cs1⟩, h1, e1⟩ := Option.bind_eq_some_iff.mp e0
  cases h1
  obtain ⟨⟨zs, cs2⟩, h2, e2⟩ := Option.bind_eq_some_iff.mp e1
  obtain ⟨hl, em⟩ := ite_none e2
  refine wpAny_Call_Name_kw (ld_glob I hg hm ?_ hdb)
  have hrun2 := hkw.run pos pins s σ H (ArgP X.K O H cs2 zs) I ⟨ρ, O, cs, zs, cs2, h2, en, w, fun vs H' c w' ra => ⟨c, w', ra⟩⟩
  refine PySem.W.callWith_KW0 (h₀ := X.base) I.ok.mod.kin hk hall (thn hrun2 fun ws s2 hws => ?_) hpl
  obtain ⟨ys, H2, I2, rz, c2, w2, rb⟩ := hws
  refine ⟨I2.kIn, ?_⟩
  rw [hks]
  have hb' := hb.to s2 [] ws I2.kIn rfl (by rw [← rz.length, ← rb.length]; exact hl.2.1)
  exact call_end F hr rm.gd rm.nd I2 hb' (pick_vals (π := π) rz) hl.2.2 w2 (pick_ar (π := π) rb) em (pq.step c2 w2)
end
end DL
namespace DL
open PySem PySem.Spec PyProof.Rows L2
section
variable {X : Cx}
/-! isinstance -/
def tyN : D → String
  | .none => "NoneType"
  | .bool _ => "bool"
  | .int _ => "int"
  | .str _ => "str"
  | .list _ => "list"
  | .tuple _ => "tuple"
  | .dict kvs => if isFn kvs = true then "function" else "dict"
/-- a value's type, a def's object too -/
def TyF (K : PySem.W.Frag) (H : Hp) (v : V) (t : Value) : Prop := TyX K H v t ∨ ∃ (f : Addr) (o : Obj), v = .ref f ∧ t = .type "function" ∧ K.lookup f = some o ∧ o.cls = .type "function"
theorem kit_ofF {pins : List (Addr × Obj)} {σ : L2.St} {H : Hp} {s : Shared} {x : V} {u t : Value} (I : Inv X pins σ H s) (rx : RelV x u) (ty : TyF X.K H x t) : ∃ P : Heap → Prop, PySem.W.KitX X.K u t P ∧ P s.heap ∧ u ≠ .builtin "__main__.__loader__#opaque" := by
  rcases ty with ty | ⟨f, o, rfl, rfl, h1, h2⟩
  · exact kit_of I rx ty
  · cases (show u = Value.ref f from rx)
    exact ⟨_, fk_kit, ⟨o, I.kIn _ _ h1, h2⟩, fun z => nomatch z⟩
def rIsF (K : PySem.W.Frag) : List V → Hp → VK → Prop := fun xs H Q => ∃ (x c : V) (t u : Value) (b : Bool), xs = [x, c] ∧ ClsV c u ∧ TyF K H x t ∧ PySem.W.kitOne K t u = some b ∧ Q (.bl b) H
def rIsTF (K : PySem.W.Frag) : List V → Hp → VK → Prop := fun xs H Q => ∃ (x : V) (tp : Addr) (cs : List V) (t : Value) (us : List Value) (b : Bool), xs = [x, .ref tp] ∧ H tp = some (.tup cs) ∧ Paired ClsV cs us ∧ TyF K H x t ∧ PySem.W.kitAny K t us = some b ∧ Q (.bl b) H
theorem call_isTF : CallR X (.builtin "isinstance") (rIsTF X.K) := by
  intro pins s σ H xs us Q I r h
  obtain ⟨x, tp, cs, t, ws, b, rfl, hT, k, ty, e, q⟩ := h
  obtain ⟨u1, u2, rfl, r1, r2⟩ := vals2 r
  cases (show u2 = Value.ref tp from r2)
  obtain ⟨P, Z, p, hx⟩ := kit_ofF I r1 ty
  obtain ⟨_, its, rv, o, h1, h2, n, h3⟩ := (show ObjOk X.prog X.w H s.heap tp (.tup cs) from I.hok tp _ hT)
  have e3 := ClsV.all k rv
  subst e3
  obtain ⟨oc, od, dt, sl⟩ := o
  simp only at h2 h3
  subst h2 h3
  exact PySem.W.kia_tup Z I.kIn p h1 e hx fun tk => ⟨.bl b, H, I.tok tk, rfl, q⟩
theorem call_isF : CallR X (.builtin "isinstance") (rIsF X.K) := by
  intro pins s σ H xs us Q I r h
  obtain ⟨x, c, t, u, b, rfl, k, ty, e, q⟩ := h
  obtain ⟨u1, u2, rfl, r1, r2⟩ := vals2 r
  have e2 := k.eq r2
  subst e2
  obtain ⟨P, Z, p, hx⟩ := kit_ofF I r1 ty
  exact PySem.W.kia_one Z I.kIn p e hx fun tk => ⟨.bl b, H, I.tok tk, rfl, q⟩
theorem tyX_of {K : PySem.W.Frag} {O : List (Option Addr)} {H : Hp} {v : V} {d : D} (h : Sh K O H v d) : TyF K H v (.type (tyN d)) := by
  cases d with
  | none => cases h.none; exact .inl (.base .non)
  | bool b => cases h.bool; exact .inl (.base (.bl b))
  | int i => cases h.int; exact .inl (.base (.int i))
  | str x => obtain ⟨rfl, _⟩ := h.str; exact .inl (.base (.str x))
  | list ds =>
    obtain ⟨a, vs, rfl, q, _⟩ := h.list
    rcases q with (q | ⟨o, q⟩) | ⟨its, n, q, _⟩
    · exact .inl (.base (.lst q))
    · exact .inl (.base (.frz q))
    · exact .inl (.kList q rfl)
  | tuple ds =>
    obtain ⟨a, vs, rfl, q, _⟩ := h.tuple
    rcases q with (q | ⟨o, q⟩) | ⟨o, its, n, q, hc, _⟩
    · exact .inl (.base (.tup q))
    · exact .inl (.fTuple q)
    · exact .inl (.kTuple q hc)
  | dict ds =>
    by_cases hf : isFn ds = true
    · have e : tyN (.dict ds) = "function" := if_pos hf
      rw [e]
      rcases h with h | ⟨a, vs, ds', rfl, e, h1, h2⟩
      · cases h with
        | @dct _ _ kvs _ q e r =>
          exfalso
          unfold isFn at hf
          split at hf
          · cases kvs with
            | nil => cases e
            | cons p r' =>
              obtain ⟨k, v⟩ := p
              simp at e
              cases k <;> cases e.1
          · cases hf
        | fn q =>
          obtain ⟨o, h1, h2⟩ := Option.map_eq_some_iff.mp q.2
          exact .inr ⟨_, o, rfl, rfl, h1, h2⟩
      · cases e
    · have e : tyN (.dict ds) = "dict" := if_neg hf
      rw [e]
      obtain ⟨a, kvs, rfl, q, _⟩ := h.dict (by simpa using hf)
      rcases q with q | ⟨o, q⟩
      · exact .inl (.base (.dK q))
      · exact .inl (.fDict q)
def dIsi (T : String) (d : D) : Option Rv := (kitB (tyN d) T).map db
theorem xe_isi {T : String} {e : Expr} {x : Str} {f : ME} {p pt pos : Pos} (hg : Gl X "isinstance") (hm : X.mg "isinstance" = none) (hx : Gl X x) (hmx : X.mg x = none) (hv : bootBuiltins x = some (.type T)) (he : XE X f e)
    (hn : x ≠ "__name__" := by decide) (hd : (x == ("__debug__" : Str)) = false := by decide)
    (h1 : starEach [e, .Name x pt] X.env = (false, eval e X.env) :: starEach [.Name x pt] X.env := by rfl) (hpl : (backTo pos (starEach [.Name x pt] X.env)).any (·.1) = false := by rfl) :
    XE X (mU (dIsi T) f) (.Call (.Name "isinstance" p) [e, .Name x pt] [] pos) :=
  pe_weak (pe_callB call_isF hg hm (by decide +kernel) (pa_cons he (pa_cons (pe_bltn hx hmx hv (v := .ty T) rfl hn hd) pa_nil) h1) (he := h1) (hpl := hpl)) fun σ H Q ⟨ρ, O, cs, z, cs', e0, en, w, p⟩ => by
    obtain ⟨r, d, g1, g2, g3⟩ := mU_some e0
    obtain ⟨b, g4, rfl⟩ := Option.map_eq_some_iff.mp g3
    exact ⟨ρ, O, cs, r, cs', g1, en, w, fun v1 H1 c1 w1 r1 => ⟨v1, .ty T, _, _, b, rfl, .ty T, tyX_of (r1.deg.sh w1 g2), kit_ty g4, post_bool w1 (p.step c1 w1)⟩⟩
/-- the names of built-in classes, written -/
def tTys (Ts : List String) : TA := fun _ H Q => Q (Ts.map V.ty) H
theorem pt_nil : PA X [] (tTys []) := pa_nil
theorem pt_cons {T : String} {x : Str} {pt : Pos} {es : List Expr} {Ts : List String} (hx : Gl X x) (hmx : X.mg x = none) (hv : bootBuiltins x = some (.type T)) (hr : PA X es (tTys Ts)) (hn : x ≠ "__name__" := by decide) (hd : (x == ("__debug__" : Str)) = false := by decide)
    (hs : starEach (.Name x pt :: es) X.env = (false, eval (.Name x pt) X.env) :: starEach es X.env := by rfl) : PA X (.Name x pt :: es) (tTys (T :: Ts)) := pa_cons (pe_bltn hx hmx hv (v := .ty T) rfl hn hd) hr hs
def kitA (t : String) : List String → Option Bool
  | [] => some false
  | T :: r => match kitB t T with
    | some true => some true
    | some false => kitA t r
    | none => none
theorem kitA_ok {K : PySem.W.Frag} {t : String} : ∀ {Ts : List String}, PySem.W.kitAny K (.type t) (Ts.map Value.type) = kitA t Ts
  | [] => rfl
  | T :: r => by
    show (match PySem.W.kitOne K (.type t) (.type T) with
      | some true => some true
      | some false => PySem.W.kitAny K (.type t) (r.map Value.type)
      | none => none) = _
    rw [kitA_ok]
    rfl
theorem cls_all : ∀ Ts : List String, Paired ClsV (Ts.map V.ty) (Ts.map Value.type)
  | [] => .nil
  | T :: r => .cons (.ty T) (cls_all r)
def dIsiT (Ts : List String) (d : D) : Option Rv := (kitA (tyN d) Ts).map db
theorem xe_isiT {Ts : List String} {e : Expr} {es : List Expr} {f : ME} {p pt pos : Pos} {k : Nat} (hg : Gl X "isinstance") (hm : X.mg "isinstance" = none) (ht : PA X es (tTys Ts)) (he : XE X f e) (hz : Ts.length ≤ sizeLine := by rw [sizeLine_eq]; decide)
    (h1 : starEach [e, .Tuple es k pt] X.env = (false, eval e X.env) :: starEach [.Tuple es k pt] X.env := by rfl) (h2 : starEach [.Tuple es k pt] X.env = (false, eval (.Tuple es k pt) X.env) :: starEach [] X.env := by rfl) (hpl : (backTo pos (starEach [.Tuple es k pt] X.env)).any (·.1) = false := by rfl) :
    XE X (mU (dIsiT Ts) f) (.Call (.Name "isinstance" p) [e, .Tuple es k pt] [] pos) :=
  pe_weak (pe_callB call_isTF hg hm (by decide +kernel) (pa_cons he (pa_cons (pe_tup ht) pa_nil h2) h1) (he := h1) (hpl := hpl)) fun σ H Q ⟨ρ, O, cs, z, cs', e0, en, w, p⟩ => by
    obtain ⟨r, d, g1, g2, g3⟩ := mU_some e0
    obtain ⟨b, g4, rfl⟩ := Option.map_eq_some_iff.mp g3
    refine ⟨ρ, O, cs, r, cs', g1, en, w, fun v1 H1 c1 w1 r1 => ⟨by simpa using hz, fun q hq => ?_⟩⟩
    have w2 := w1.new (o := .tup (Ts.map V.ty)) hq
    have ar := r1.deg.ch (ch_new (O := O) (o := .tup (Ts.map V.ty)) hq)
    exact ⟨v1, q, Ts.map V.ty, _, Ts.map Value.type, b, rfl, upd_same, cls_all Ts, tyX_of (ar.sh w2 g2), by rw [kitA_ok]; exact g4, post_bool w2 (p.step (c1.trans (ch_new hq)) w2)⟩

/-! calls of built-ins with data -/
def dInt : List D → Option Rv
  | [.int i] => some (di i)
  | [.bool b] => some (di (if b then 1 else 0))
  | _ => none
theorem intCS {K : PySem.W.Frag} : CaS K (fun xs H Q => (∃ i, xs = [.int i] ∧ Q (.int i) H) ∨ ∃ k, xs = [.bl k] ∧ Q (.int (if k then 1 else 0)) H) dInt := by
  intro O cs H vs ds z Q w hp g p
  match ds, g, hp with
  | [.int i], g, hp =>
    obtain ⟨x, rfl, sx⟩ := Paired.one hp
    cases g
    exact .inl ⟨i, by rw [sx.int], post_int w p⟩
  | [.bool b], g, hp =>
    obtain ⟨x, rfl, sx⟩ := Paired.one hp
    cases g
    exact .inr ⟨b, by rw [sx.bool], post_int w p⟩
theorem xe_int1 {e : Expr} {fa : MA} {p pos : Pos} (hg : Gl X "int") (hm : X.mg "int" = none) (ha : XA X fa [e]) (he : starEach [e] X.env = (false, eval e X.env) :: starEach [] X.env := by rfl) : XE X (mCall dInt fa) (.Call (.Name "int" p) [e] [] pos) :=
  xe_callTy call_int1 intCS hg hm (by decide +kernel) ha (he := he)
/-- str of an int below 4300 figures, of a text -/
def rStr : List V → Hp → VK → Prop := fun xs H Q => (∃ i, xs = [.int i] ∧ i.natAbs < 10 ^ 4300 ∧ Q (.str (toString i)) H) ∨ ∃ a, xs = [.str a] ∧ Q (.str a) H
theorem call_strD (rm : Rm X) : CallR X (.type "str") rStr := by
  intro pins s σ H xs us Q I r h
  rcases h with ⟨i, rfl, hz, q⟩ | ⟨a, rfl, q⟩
  · obtain ⟨u, rfl, t, rfl⟩ := vals1 r
    have nd : s.heap.NoDigits := rm.nd.keeps fun a o e => (I.bk a o e)
    exact str_of_int_or (I.ok.hd rm.calm) nd (fun _ => ⟨.str _, H, I.tok _, ⟨_, rfl⟩, q⟩) fun hge => absurd hz (Nat.not_lt.mpr hge)
  · obtain ⟨u, rfl, t, rfl⟩ := vals1 r
    exact PySem.P.str_of_str ⟨.str a, H, I, ⟨t, rfl⟩, q⟩
def dStr : List D → Option Rv
  | [.int i] => if i.natAbs < 10 ^ 4300 then some (.dat (.str (Str.ofString (toString i)))) else none
  | [.str x] => some (.dat (.str x))
  | _ => none
theorem strCS {K : PySem.W.Frag} : CaS K rStr dStr := by
  intro O cs H vs ds z Q w hp g p
  match ds, g, hp with
  | [.int i], g, hp =>
    obtain ⟨x, rfl, sx⟩ := Paired.one hp
    obtain ⟨hz, rfl⟩ := ite_some g
    exact .inl ⟨i, by rw [sx.int], hz, post_str w (PySem.int_text_fits10 hz) p⟩
  | [.str y], g, hp =>
    obtain ⟨x, rfl, sx⟩ := Paired.one hp
    cases g
    obtain ⟨rfl, hz⟩ := sx.str
    exact .inr ⟨y, rfl, post_str w hz p⟩
theorem xe_str1 {e : Expr} {fa : MA} {p pos : Pos} (rm : Rm X) (hg : Gl X "str") (hm : X.mg "str" = none) (ha : XA X fa [e]) (he : starEach [e] X.env = (false, eval e X.env) :: starEach [] X.env := by rfl) : XE X (mCall dStr fa) (.Call (.Name "str" p) [e] [] pos) :=
  xe_callTy (call_strD rm) strCS hg hm (by decide +kernel) ha (he := he)
/-- list(..) of a list, a tuple, a text -/
theorem CallR.or {f : Value} {r r' : List V → Hp → VK → Prop} (h : CallR X f r) (h' : CallR X f r') : CallR X f (fun xs H Q => r xs H Q ∨ r' xs H Q) := fun pins s σ H xs us Q I rv q => by
  rcases q with q | q
  · exact h pins s σ H xs us Q I rv q
  · exact h' pins s σ H xs us Q I rv q
def charsV (x : Str) : List V := x.cps.toList.map fun c => .str ⟨#[c]⟩
def charsD (x : Str) : List D := x.cps.toList.map fun c => .str ⟨#[c]⟩
theorem chars_rp {K : PySem.W.Frag} {H : Hp} (x : Str) : RpAll K H (charsV x) (charsD x) := by
  unfold charsV charsD
  induction x.cps.toList with
  | nil => exact .nil
  | cons c r ih => exact .cons (.str _ (one_sign c)) ih
theorem vals_ix : ∀ {xs : List V} {us : List Value}, us.length = xs.length → (∀ (j : Nat) (u : Value), us[j]? = some u → ∃ x, xs[j]? = some x ∧ RelV x u) → Vals xs us
  | [], [], _, _ => .nil
  | [], _ :: _, h, _ => by simp at h
  | _ :: _, [], h, _ => by simp at h
  | x :: xs, u :: us, h, k => by
    obtain ⟨y, e, r⟩ := k 0 u rfl
    have e' : x = y := Option.some.inj e
    subst e'
    exact .cons r (vals_ix (Nat.succ.inj h) fun j v hv => k (j + 1) v hv)
theorem call_list_tx (rm : Rm X) : CallR X (.type "list") (fun xs H Q => ∃ x, xs = [.str x] ∧ x.length ≤ sizeLine ∧ ∀ l, H l = none → Q (.ref l) (upd H l (.lst (charsV x)))) := by
  intro pins s σ H xs us Q I r h
  obtain ⟨x, rfl, hz, q⟩ := h
  obtain ⟨u, rfl, t, rfl⟩ := vals1 r
  have hl : (charsV x).length = x.cps.size := by simp [charsV]
  refine call_list_str (I.ok.hd rm.calm) x t (hn := hz) fun h' tk acc' c' hk hS' hacc => ?_
  refine ⟨.ref s.heap.objs.size, upd H s.heap.objs.size (.lst (charsV x)), I.laid hk (Nat.le_refl _) (show ObjOk X.prog X.w _ _ _ (.lst (charsV x)) from ⟨by rw [hl]; exact hz, acc'.toList, c', vals_ix (by rw [hl]; simpa using hacc.1) fun j u hu => ?_, ?_⟩), rfl, q _ (I.hok.fresh (Nat.le_refl _))⟩
  · obtain ⟨c, t', hc, rfl⟩ := hacc.2 j u (by simpa using hu)
    exact ⟨.str ⟨#[c]⟩, by simp [charsV, hc], t', rfl⟩
  · rw [Array.toArray_toList]; exact hS'
def dList : List D → Option Rv
  | [.list ds] => some (.fr ds)
  | [.tuple ds] => some (.fr ds)
  | [.str x] => some (.fr (charsD x))
  | _ => none
def rListD (K : PySem.W.Frag) : List V → Hp → VK → Prop := fun xs H Q => (∃ p ys, xs = [.ref p] ∧ (SqL K H p ys ∨ SqT K H p ys) ∧ ∀ l, H l = none → Q (.ref l) (upd H l (.lst ys))) ∨ ∃ x, xs = [.str x] ∧ x.length ≤ sizeLine ∧ ∀ l, H l = none → Q (.ref l) (upd H l (.lst (charsV x)))
theorem listCS {K : PySem.W.Frag} : CaS K (rListD K) dList := by
  intro O cs H vs ds z Q w hp g p
  match ds, g, hp with
  | [.list ds], g, hp =>
    obtain ⟨x, rfl, sx⟩ := Paired.one hp
    cases g
    obtain ⟨a, vs, rfl, q, r⟩ := sx.list
    exact .inl ⟨a, vs, rfl, .inl q.sq, post_list w r p⟩
  | [.tuple ds], g, hp =>
    obtain ⟨x, rfl, sx⟩ := Paired.one hp
    cases g
    obtain ⟨a, vs, rfl, q, r⟩ := sx.tuple
    exact .inl ⟨a, vs, rfl, .inr q, post_list w r p⟩
  | [.str y], g, hp =>
    obtain ⟨x, rfl, sx⟩ := Paired.one hp
    cases g
    obtain ⟨rfl, hz⟩ := sx.str
    exact .inr ⟨y, rfl, hz, post_list w (chars_rp y) p⟩
theorem xe_list1 {e : Expr} {fa : MA} {p pos : Pos} (rm : Rm X) (hg : Gl X "list") (hm : X.mg "list" = none) (ha : XA X fa [e]) (he : starEach [e] X.env = (false, eval e X.env) :: starEach [] X.env := by rfl) : XE X (mCall dList fa) (.Call (.Name "list" p) [e] [] pos) :=
  xe_callTy (CallR.or call_list_of (call_list_tx rm)) listCS hg hm (by decide +kernel) ha (he := he)
/-- tuple(..) of a list, a tuple -/
def dTuple : List D → Option Rv
  | [.list ds] => some (.dat (.tuple ds))
  | [.tuple ds] => some (.dat (.tuple ds))
  | _ => none
theorem tupleCS {K : PySem.W.Frag} : CaS K (fun xs H Q => ∃ p ys, xs = [.ref p] ∧ ((SqL K H p ys ∧ ∀ l, H l = none → Q (.ref l) (upd H l (.tup ys))) ∨ (SqT K H p ys ∧ Q (.ref p) H))) dTuple := by
  intro O cs H vs ds z Q w hp g p
  match ds, g, hp with
  | [.list ds], g, hp =>
    obtain ⟨x, rfl, sx⟩ := Paired.one hp
    cases g
    obtain ⟨a, vs, rfl, q, r⟩ := sx.list
    exact ⟨a, vs, rfl, .inl ⟨q.sq, post_tup w r p⟩⟩
  | [.tuple ds], g, hp =>
    obtain ⟨x, rfl, sx⟩ := Paired.one hp
    cases g
    have sx' := sx
    obtain ⟨a, vs, rfl, q, r⟩ := sx.tuple
    rcases sx' with sx' | ⟨_, _, _, _, h, _⟩
    · exact ⟨a, vs, rfl, .inr ⟨q, post_val w sx' p⟩⟩
    · cases h
theorem xe_tuple1 {e : Expr} {fa : MA} {p pos : Pos} (hg : Gl X "tuple") (hm : X.mg "tuple" = none) (ha : XA X fa [e]) (he : starEach [e] X.env = (false, eval e X.env) :: starEach [] X.env := by rfl) : XE X (mCall dTuple fa) (.Call (.Name "tuple" p) [e] [] pos) :=
  xe_callTy call_tuple_of tupleCS hg hm (by decide +kernel) ha (he := he)
/-- abs, max, min of two ints, sum of ints -/
def dAbs : List D → Option Rv
  | [.int i] => some (di (if i < 0 then -i else i))
  | _ => none
theorem absCS {K : PySem.W.Frag} : CaS K (fun xs H Q => ∃ i, xs = [.int i] ∧ Q (.int (if i < 0 then -i else i)) H) dAbs := by
  intro O cs H vs ds z Q w hp g p
  match ds, g, hp with
  | [.int i], g, hp =>
    obtain ⟨x, rfl, sx⟩ := Paired.one hp
    cases g
    exact ⟨i, by rw [sx.int], post_int w p⟩
theorem xe_abs {e : Expr} {fa : MA} {p pos : Pos} (hg : Gl X "abs") (hm : X.mg "abs" = none) (ha : XA X fa [e]) (he : starEach [e] X.env = (false, eval e X.env) :: starEach [] X.env := by rfl) : XE X (mCall dAbs fa) (.Call (.Name "abs" p) [e] [] pos) :=
  xe_callB call_abs absCS hg hm (by decide +kernel) ha (he := he)
def dMax2 : List D → Option Rv
  | [.int i, .int j] => some (di (if j > i then j else i))
  | _ => none
def dMin2 : List D → Option Rv
  | [.int i, .int j] => some (di (if j < i then j else i))
  | _ => none
theorem max2CS {K : PySem.W.Frag} : CaS K (fun xs H Q => ∃ i j, xs = [.int i, .int j] ∧ Q (.int (if j > i then j else i)) H) dMax2 := by
  intro O cs H vs ds z Q w hp g p
  match ds, g, hp with
  | [.int i, .int j], g, hp =>
    obtain ⟨x, y, rfl, sx, sy⟩ := Paired.two hp
    cases g
    exact ⟨i, j, by rw [sx.int, sy.int], post_int w p⟩
theorem min2CS {K : PySem.W.Frag} : CaS K (fun xs H Q => ∃ i j, xs = [.int i, .int j] ∧ Q (.int (if j < i then j else i)) H) dMin2 := by
  intro O cs H vs ds z Q w hp g p
  match ds, g, hp with
  | [.int i, .int j], g, hp =>
    obtain ⟨x, y, rfl, sx, sy⟩ := Paired.two hp
    cases g
    exact ⟨i, j, by rw [sx.int, sy.int], post_int w p⟩
theorem xe_max2 {e e2 : Expr} {fa : MA} {p pos : Pos} (rm : Rm X) (hg : Gl X "max") (hm : X.mg "max" = none) (ha : XA X fa [e, e2]) (he : starEach [e, e2] X.env = (false, eval e X.env) :: starEach [e2] X.env := by rfl) (hpl : (backTo pos (starEach [e2] X.env)).any (·.1) = false := by rfl) : XE X (mCall dMax2 fa) (.Call (.Name "max" p) [e, e2] [] pos) :=
  xe_callB (call_max2 rm.calm) max2CS hg hm (by decide +kernel) ha (he := he) (hpl := hpl)
theorem xe_min2 {e e2 : Expr} {fa : MA} {p pos : Pos} (rm : Rm X) (hg : Gl X "min") (hm : X.mg "min" = none) (ha : XA X fa [e, e2]) (he : starEach [e, e2] X.env = (false, eval e X.env) :: starEach [e2] X.env := by rfl) (hpl : (backTo pos (starEach [e2] X.env)).any (·.1) = false := by rfl) : XE X (mCall dMin2 fa) (.Call (.Name "min" p) [e, e2] [] pos) :=
  xe_callB (call_min2 rm.calm) min2CS hg hm (by decide +kernel) ha (he := he) (hpl := hpl)
def intsD : List D → Option (List Int)
  | [] => some []
  | .int i :: r => (intsD r).map fun is => i :: is
  | _ => none
theorem intsD_v {K : PySem.W.Frag} {H : Hp} : ∀ {ds : List D} {vs : List V} {is : List Int}, RpAll K H vs ds → intsD ds = some is → vs = is.map V.int
  | [], vs, is, r, e => by cases r; cases e; rfl
  | .int i :: ds, vs, is, r, e => by
    obtain ⟨js, h1, h2⟩ := Option.map_eq_some_iff.mp e
    subst h2
    cases r with
    | cons a t =>
      cases a
      rw [intsD_v t h1]; rfl
  | .none :: _, _, _, _, e => by cases e
  | .bool _ :: _, _, _, _, e => by cases e
  | .str _ :: _, _, _, _, e => by cases e
  | .list _ :: _, _, _, _, e => by cases e
  | .tuple _ :: _, _, _, _, e => by cases e
  | .dict _ :: _, _, _, _, e => by cases e
def dSum : List D → Option Rv
  | [.list ds] => (intsD ds).map fun is => di is.sum
  | _ => none
theorem sumCS {K : PySem.W.Frag} : CaS K (rSum K) dSum := by
  intro O cs H vs ds z Q w hp g p
  match ds, g, hp with
  | [.list ds], g, hp =>
    obtain ⟨x, rfl, sx⟩ := Paired.one hp
    obtain ⟨is, h1, rfl⟩ := Option.map_eq_some_iff.mp g
    obtain ⟨a, vs, rfl, q, r⟩ := sx.list
    have e := intsD_v r h1
    subst e
    exact ⟨a, is, rfl, q.sq, post_int w p⟩
theorem xe_sum {e : Expr} {fa : MA} {p pos : Pos} (rm : Rm X) (hg : Gl X "sum") (hm : X.mg "sum" = none) (ha : XA X fa [e]) (he : starEach [e] X.env = (false, eval e X.env) :: starEach [] X.env := by rfl) : XE X (mCall dSum fa) (.Call (.Name "sum" p) [e] [] pos) :=
  xe_callB (cr_sum rm.calm) sumCS hg hm (by decide +kernel) ha (he := he)
end
end DL
namespace DL
open PySem PySem.Spec PyProof.Rows L2
section
variable {X : Cx}
/-! repr -/
def scal : D → Bool
  | .none | .bool _ | .int _ | .str _ => true
  | _ => false
def flatD : D → Bool
  | .dict kvs => !isFn kvs && kvs.all fun p => scal p.1 && scal p.2
  | d => !d.hasDict
def rOk (d : D) : Bool := d.showable && flatD d && decide (d.depth ≤ 100) && decide (d.shown.length ≤ sizeLine)
theorem reads_scal {h : Heap} : ∀ {us : List Value} {ds : List D} {as : List Addr}, ReadsAll h us ds as → (∀ d ∈ ds, scal d = true) → as = []
  | _, _, _, .nil, _ => rfl
  | _, _, _, .cons (d := d) a r, q => by
    have h1 := q _ (List.mem_cons_self ..)
    have h2 := reads_scal r fun d hd => q d (List.mem_cons_of_mem _ hd)
    subst h2
    cases a <;> first | rfl | cases h1
theorem scal_noF {d : D} (h : scal d = true) : noF d = true := by
  cases d <;> first | (unfold noF; rfl) | cases h
theorem flat_noF {d : D} (h : flatD d = true) : noF d = true := by
  cases d with
  | dict kvs =>
    obtain ⟨h1, h2⟩ := Bool.and_eq_true_iff.mp (show (!isFn kvs && kvs.all fun p => scal p.1 && scal p.2) = true from h)
    unfold noF
    rw [h1, Bool.true_and]
    clear h h1
    induction kvs with
    | nil => unfold noFk; rfl
    | cons p r ih =>
      rw [List.all_cons, Bool.and_eq_true, Bool.and_eq_true] at h2
      obtain ⟨k, v⟩ := p
      unfold noFk
      rw [scal_noF h2.1.2, ih h2.2]
      rfl
  | list ds => exact noF_nodict (by simpa using (show (!PyData.hasDict (.list ds)) = true from h))
  | tuple ds => exact noF_nodict (by simpa using (show (!PyData.hasDict (.tuple ds)) = true from h))
  | none => unfold noF; rfl
  | bool _ => unfold noF; rfl
  | int _ => unfold noF; rfl
  | str _ => unfold noF; rfl
def rReprD (K : PySem.W.Frag) : List V → Hp → VK → Prop := fun xs H Q => ∃ x d, xs = [x] ∧ Rp K H x d ∧ rOk d = true ∧ Q (.str d.shown) H
theorem call_reprD (rm : Rm X) : CallR X (.builtin "repr") (rReprD X.K) := by
  intro pins s σ H xs us Q I r h
  obtain ⟨x, d, rfl, rx, ok, q⟩ := h
  unfold rOk at ok
  simp only [Bool.and_eq_true, decide_eq_true_eq] at ok
  obtain ⟨⟨⟨o1, o2⟩, o3⟩, o4⟩ := ok
  have go : ∀ (a : Addr), x = .ref a → wpAny (model X.prog X.w) X.A (call (.builtin "repr") us) (EP X pins σ Q) X.xe s := by
    intro a ea
    subst ea
    obtain ⟨u, rfl, ru⟩ := vals1 r
    obtain ⟨as, rd⟩ := Rp.reads I rx (flat_noF o2) _ ru
    cases ru
    refine repr_of_reads' (h₀ := s.heap) rd o1 (fun hd => ?_) rm.gd (by have := rm.un; omega) (fun _ _ e => e) (fun h' u tk k => ⟨.str _, H, I.kept k, ⟨_, rfl⟩, q⟩) o4
    cases rx with
    | lst _ _ => rw [show flatD (.list _) = !(PyData.hasDict (.list _)) from rfl, hd] at o2; cases o2
    | tup _ _ => rw [show flatD (.tuple _) = !(PyData.hasDict (.tuple _)) from rfl, hd] at o2; cases o2
    | fn _ => cases o2
    | dct qd e b =>
      obtain ⟨_, hS, _⟩ := dk_rd I.hok (.inr ⟨_, qd⟩)
      have sc := List.all_eq_true.mp (Bool.and_eq_true_iff.mp (show (!_ && List.all _ _) = true from o2)).2
      cases rd with
      | dict g1 g2 g3 g4 g5 =>
        have e1 := reads_scal g4 (by
          intro d hd
          obtain ⟨p, hp, rfl⟩ := List.mem_map.mp hd
          have := sc p hp
          simp only [Bool.and_eq_true] at this
          exact this.1)
        have e2 := reads_scal g5 (by
          intro d hd
          obtain ⟨p, hp, rfl⟩ := List.mem_map.mp hd
          have := sc p hp
          simp only [Bool.and_eq_true] at this
          exact this.2)
        subst e1 e2
        simpa using Ne.symm (beq_eq_false_iff_ne.mp hS)
  cases rx with
  | non =>
    obtain ⟨u, rfl, ru⟩ := vals1 r
    cases ru
    exact PySem.P.repr_of_none ⟨.str _, H, I.tok _, ⟨_, rfl⟩, q⟩
  | bl b =>
    obtain ⟨u, rfl, ru⟩ := vals1 r
    cases ru
    exact PySem.P.repr_of_bool ⟨.str _, H, I.tok _, ⟨_, rfl⟩, q⟩
  | int i =>
    obtain ⟨u, rfl, t, rfl⟩ := vals1 r
    exact PySem.P.repr_of_int (by simpa [PyData.showable] using o1) ⟨.str _, H, I.tok _, ⟨_, rfl⟩, q⟩
  | str y hz =>
    obtain ⟨u, rfl, t, rfl⟩ := vals1 r
    exact PySem.P.repr_of_str ⟨.str _, H, I.tok _, ⟨_, rfl⟩, q⟩ o4
  | lst _ _ => exact go _ rfl
  | tup _ _ => exact go _ rfl
  | dct _ _ _ => exact go _ rfl
  | fn _ => exact go _ rfl
def dRepr : List D → Option Rv
  | [d] => if rOk d = true then some (.dat (.str d.shown)) else none
  | _ => none
theorem reprCS {K : PySem.W.Frag} : CaS K (rReprD K) dRepr := by
  intro O cs H vs ds z Q w hp g p
  match ds, g, hp with
  | [d], g, hp =>
    obtain ⟨x, rfl, sx⟩ := Paired.one hp
    obtain ⟨hz, rfl⟩ := ite_some g
    refine ⟨x, d, rfl, sx.rp, hz, post_str w ?_ p⟩
    unfold rOk at hz
    simp only [Bool.and_eq_true, decide_eq_true_eq] at hz
    exact hz.2
theorem xe_repr {e : Expr} {fa : MA} {p pos : Pos} (rm : Rm X) (hg : Gl X "repr") (hm : X.mg "repr" = none) (ha : XA X fa [e]) (he : starEach [e] X.env = (false, eval e X.env) :: starEach [] X.env := by rfl) : XE X (mCall dRepr fa) (.Call (.Name "repr" p) [e] [] pos) :=
  xe_callB (call_reprD rm) reprCS hg hm (by decide +kernel) ha (he := he)

/-! sorted -/
mutual
theorem noF_alike : ∀ {d : D}, PySem.W.alike d d = true → noF d = true
  | .none, _ => by unfold noF; rfl
  | .bool _, _ => by unfold noF; rfl
  | .int _, _ => by unfold noF; rfl
  | .str _, _ => by unfold noF; rfl
  | .list ds, h => by unfold noF; exact noFs_alike (by simpa only [PySem.W.alike] using h)
  | .tuple ds, h => by unfold noF; exact noFs_alike (by simpa only [PySem.W.alike] using h)
  | .dict _, h => by simp [PySem.W.alike] at h
theorem noFs_alike : ∀ {ds : List D}, PySem.W.alikeAll ds ds = true → noFs ds = true
  | [], _ => by unfold noFs; rfl
  | d :: ds, h => by
    simp only [PySem.W.alikeAll, Bool.and_eq_true] at h
    unfold noFs
    rw [noF_alike h.1, noFs_alike h.2]
    rfl
end
def nTup : D → Bool
  | .tuple (_ :: _) => true
  | _ => false
def nOth : D → Bool
  | .tuple _ => false
  | .none => false
  | _ => true
def sOk (ds : List D) : Bool := ds.all (fun d => ds.all fun e => PySem.W.alike d e) && (ds.all nTup || ds.all nOth) && ds.all (fun d => decide (d.depth ≤ 100))
def srt (ds : List D) : List D := ds.mergeSort (PySem.W.dataLe false id)
def rSortedD (K : PySem.W.Frag) : List V → Hp → VK → Prop := fun xs H Q => ∃ (R : V → D → Prop) (a : Addr) (vs : List V) (ds : List D), xs = [.ref a] ∧ SqL K H a vs ∧ Paired (fun v d => Rp K H v d ∧ R v d) vs ds ∧ sOk ds = true ∧
  ∀ p ws, H p = none → Paired R ws (srt ds) → Q (.ref p) (upd H p (.lst ws))
theorem each_of {R : V → D → Prop} : ∀ {ws : List Value} {ds : List D}, PySem.W.EachIs (fun u d => ∃ v, RelV v u ∧ R v d) ws ds → ∃ vs, Vals vs ws ∧ Paired R vs ds
  | _, _, .nil => ⟨[], .nil, .nil⟩
  | _, _, .cons a r => by
    obtain ⟨v, h1, h2⟩ := a
    obtain ⟨vs, q1, q2⟩ := each_of r
    exact ⟨v :: vs, .cons h1 q1, .cons h2 q2⟩
theorem call_sortedD' (rm : Rm X) : CallR X (.builtin "sorted") (rSortedD X.K) := by
  intro pins s σ H xs us Q I r h
  obtain ⟨R, a, vs, ds, rfl, hs, hp, ok, q⟩ := h
  unfold sOk at ok
  simp only [Bool.and_eq_true, Bool.or_eq_true] at ok
  obtain ⟨⟨o1, o2⟩, o3⟩ := ok
  obtain ⟨its, rv, ⟨o, n, ho, hc, _, hd⟩, hz⟩ := I.list hs
  rw [Vals.ref1 r]
  have hl : vs.length = ds.length := by
    clear q rv hz o1 o2 o3 hs
    induction hp with
    | nil => rfl
    | cons _ _ ih => simp [ih]
  have onf : ∀ d ∈ ds, noF d = true := fun d hd => noF_alike (List.all_eq_true.mp (List.all_eq_true.mp o1 d hd) d hd)
  have e1 : PySem.W.EachIs (fun u d => (∃ v, RelV v u ∧ R v d) ∧ ∃ as, Reads s.heap u d as) its ds := by
    clear q hz o1 o2 o3 hs hl hd
    induction hp generalizing its with
    | nil => cases rv; exact .nil
    | cons b _ ih =>
      cases rv with
      | cons r1 r2 =>
        exact .cons ⟨⟨_, r1, b.2⟩, Rp.reads I b.1 (onf _ (List.mem_cons_self ..)) _ r1⟩ (ih _ r2 fun d hd => onf d (List.mem_cons_of_mem _ hd))
  have h0 := PySem.W.sorted_data (prog := X.prog) (w := X.w) (A := X.A) (E := X.xe) (R := fun u d => ∃ v, RelV v u ∧ R v d) (enc := id) (bs := ds) (vs := its) (l := a) (s := s) (Q := EP X pins σ Q) ⟨o, ho, hc, n, hd⟩
    (e1.mono fun _ _ z => z.1) (e1.mono fun _ _ z => z.2) (by
      rw [List.map_id]
      intro d hd d' hd'
      exact List.all_eq_true.mp (List.all_eq_true.mp o1 d hd) d' hd') (by
      rw [List.map_id]
      rcases o2 with o2 | o2
      · refine .inl fun d hd => ?_
        have := List.all_eq_true.mp o2 d hd
        cases d with
        | tuple l => cases l with
          | nil => cases this
          | cons x r => exact ⟨x, r, rfl⟩
        | _ => cases this
      · refine .inr fun d hd => ?_
        have := List.all_eq_true.mp o2 d hd
        cases d with
        | tuple l => cases this
        | none => cases this
        | _ => exact ⟨fun z => PyData.noConfusion z, fun _ z => PyData.noConfusion z⟩) (by rw [← hl]; exact hz) (fun b hb => by
      have := of_decide_eq_true (List.all_eq_true.mp o3 b hb)
      have := rm.un
      show _ + 2 + b.depth < _
      omega)
  refine h0 fun out ho1 ho2 => ?_
  obtain ⟨ws, v1, v2⟩ := each_of ho2
  obtain ⟨ep, he'⟩ := PyProof.Rows.sortedAll_at s.heap its out.toArray
  exact ⟨.ref _, upd H (s.heap.objs.size + 1) (.lst ws), I.laid (t' := s.toks) (fun _ _ => PyProof.Rows.sortedAll_old) (Nat.le_succ _) ⟨by rw [v1.length, ho1, ← hl]; exact hz, out, ep, v1, he'⟩, rfl, q _ _ (I.hok.fresh (Nat.le_succ _)) v2⟩
def dSorted : List D → Option Rv
  | [.list ds] => if sOk ds = true then some (.fr (srt ds)) else none
  | _ => none
theorem paired_rp {K : PySem.W.Frag} {H H' : Hp} : ∀ {vs : List V} {ds : List D}, RpAll K H vs ds → (∀ {v d}, Rp K H v d → Rp K H' v d) → Paired (fun v d => Rp K H' v d ∧ Rp K H v d) vs ds
  | _, _, .nil, _ => .nil
  | _, _, .cons a r, h => .cons ⟨h a, a⟩ (paired_rp r h)
theorem rp_paired {K : PySem.W.Frag} {H : Hp} : ∀ {vs : List V} {ds : List D}, Paired (Rp K H) vs ds → RpAll K H vs ds
  | _, _, .nil => .nil
  | _, _, .cons a r => .cons a (rp_paired r)
theorem sortedCS {K : PySem.W.Frag} : CaS K (rSortedD K) dSorted := by
  intro O cs H vs ds z Q w hp g p
  match ds, g, hp with
  | [.list ds], g, hp =>
    obtain ⟨x, rfl, sx⟩ := Paired.one hp
    obtain ⟨hz, rfl⟩ := ite_some g
    obtain ⟨a, vs, rfl, q, r⟩ := sx.list
    exact ⟨Rp K (hd O H), a, vs, ds, rfl, q.sq, paired_rp r (fun h => h.mono hd_le), hz, fun b ws hb hw => post_list w (rp_paired hw) p b hb⟩
theorem xe_sorted {e : Expr} {fa : MA} {p pos : Pos} (rm : Rm X) (hg : Gl X "sorted") (hm : X.mg "sorted" = none) (ha : XA X fa [e]) (he : starEach [e] X.env = (false, eval e X.env) :: starEach [] X.env := by rfl) : XE X (mCall dSorted fa) (.Call (.Name "sorted" p) [e] [] pos) :=
  xe_callB (call_sortedD' rm) sortedCS hg hm (by decide +kernel) ha (he := he)

/-! str.join, bit_length -/
def strsD : List D → Option (List Str)
  | [] => some []
  | .str i :: r => (strsD r).map fun is => i :: is
  | _ => none
theorem strsD_v {K : PySem.W.Frag} {H : Hp} : ∀ {ds : List D} {vs : List V} {is : List Str}, RpAll K H vs ds → strsD ds = some is → vs = is.map V.str
  | [], vs, is, r, e => by cases r; cases e; rfl
  | .str i :: ds, vs, is, r, e => by
    obtain ⟨js, h1, h2⟩ := Option.map_eq_some_iff.mp e
    subst h2
    cases r with
    | cons a t =>
      cases a
      rw [strsD_v t h1]; rfl
  | .none :: _, _, _, _, e => by cases e
  | .bool _ :: _, _, _, _, e => by cases e
  | .int _ :: _, _, _, _, e => by cases e
  | .list _ :: _, _, _, _, e => by cases e
  | .tuple _ :: _, _, _, _, e => by cases e
  | .dict _ :: _, _, _, _, e => by cases e
def joinOk (a : Str) (ys : List Str) : Bool := decide ((ys.map (·.length)).sum + ys.length * a.length ≤ 16777216) && decide ((Txt.join a ys).length ≤ sizeLine)
def dJoin : D → D → Option Rv
  | .str a, .list ds => (strsD ds).bind fun ys => if joinOk a ys = true then some (.dat (.str (Txt.join a ys))) else none
  | .str a, .tuple ds => (strsD ds).bind fun ys => if joinOk a ys = true then some (.dat (.str (Txt.join a ys))) else none
  | _, _ => none
/-- a text's method with one argument -/
def M1S (K : PySem.W.Frag) (r : V → List V → Hp → VK → Prop) (g : D → D → Option Rv) : Prop := ∀ (O : List (Option Addr)) (cs : Cs) (H : Hp) (x y : V) (d e : D) (z : Rv) (Q : VK), Wd K O cs H → Sh K O H x d → Sh K O H y e → g d e = some z → PostX K O H z cs Q → (∃ a, x = .str a) ∧ r x [y] H Q
theorem joinS {K : PySem.W.Frag} : M1S K (fun x xs H Q => ∃ a p, ∃ ys : List Str, x = .str a ∧ xs = [.ref p] ∧ (SqL K H p (ys.map V.str) ∨ SqT K H p (ys.map V.str)) ∧
      (ys.map (·.length)).sum + ys.length * a.length ≤ 16777216 ∧ Q (.str (Txt.join a ys)) H) dJoin := by
  intro O cs H x y d e z Q w sx sy g p
  have fin : ∀ {a : Str} {ys : List Str}, (if joinOk a ys = true then some (Rv.dat (.str (Txt.join a ys))) else none) = some z → (ys.map (·.length)).sum + ys.length * a.length ≤ 16777216 ∧ Q (.str (Txt.join a ys)) H := fun {a ys} g => by
    obtain ⟨hz, rfl⟩ := ite_some g
    unfold joinOk at hz
    simp only [Bool.and_eq_true, decide_eq_true_eq] at hz
    exact ⟨hz.1, post_str w hz.2 p⟩
  cases d with
  | str a =>
    obtain ⟨rfl, _⟩ := sx.str
    cases e with
    | list ds =>
      obtain ⟨ys, h1, g⟩ := Option.bind_eq_some_iff.mp g
      obtain ⟨b, vs, rfl, q, r⟩ := sy.list
      have e := strsD_v r h1
      subst e
      exact ⟨⟨a, rfl⟩, a, b, ys, rfl, rfl, .inl q.sq, fin g⟩
    | tuple ds =>
      obtain ⟨ys, h1, g⟩ := Option.bind_eq_some_iff.mp g
      obtain ⟨b, vs, rfl, q, r⟩ := sy.tuple
      have e := strsD_v r h1
      subst e
      exact ⟨⟨a, rfl⟩, a, b, ys, rfl, rfl, .inr q, fin g⟩
    | _ => cases g
  | _ => cases g
/-- evaluated before: the receiver must be a text at once -/
def mM1 (g : D → D → Option Rv) (fa fb : ME) : ME := fun ρ cs => (fa ρ cs).bind fun p => match p.1 with
  | .dat (.str a) => (fb ρ p.2).bind fun q => (rd (deg q.1) q.2).bind fun e => (g (.str a) e).map fun z => (z, q.2)
  | _ => none
theorem tM1_of {K : PySem.W.Frag} {r : V → List V → Hp → VK → Prop} {g : D → D → Option Rv} {fa fb : ME} (hs : M1S K r g) {σ : L2.St} {H : Hp} {Q : VK} (h : tX K (mM1 g fa fb) σ H Q) : tM1 r (tX K fa) (tX K fb) σ H Q := by
  obtain ⟨ρ, O, cs, z, cs', e, en, w, p⟩ := h
  obtain ⟨⟨x, cs1⟩, h1, e⟩ := Option.bind_eq_some_iff.mp e
  dsimp only at e
  split at e
  · rename_i a
    obtain ⟨⟨y, cs2⟩, h2, e⟩ := Option.bind_eq_some_iff.mp e
    obtain ⟨ye, h3, e⟩ := Option.bind_eq_some_iff.mp e
    obtain ⟨z', h4, e⟩ := Option.map_eq_some_iff.mp e
    cases e
    refine ⟨ρ, O, cs, _, cs1, h1, en, w, fun v1 H1 c1 w1 r1 => ?_⟩
    have e1 := (Sh.str (.inl r1 : Sh K O H1 v1 (.str a))).1
    refine ⟨⟨a, e1⟩, ρ, O, cs1, y, cs2, h2, en.ch c1, w1, fun v2 H2 c2 w2 r2 => ?_⟩
    exact (hs O cs2 H2 v1 v2 (.str a) ye _ Q w2 (.inl (Rp.mono c2.data r1)) (r2.deg.sh w2 h3) h4 (p.step (c1.trans c2) w2)).2
  · cases e
theorem xe_join {o e : Expr} {fa fb : ME} {apos pos : Pos} (ho : XE X fa o) (he : XE X fb e) (hs : starEach [e] X.env = [(false, eval e X.env)] := by rfl) (hbase : attributeBase o "join" X.env (eval o X.env) = eval o X.env := by rfl) (hline : (apos.endLine == pos.line) = true := by rfl) :
    XE X (mM1 dJoin fa fb) (.Call (.Attribute o "join" apos) [e] [] pos) := pe_weak (pe_join ho he hs hbase hline) fun σ H Q h => tM1_of joinS h
def dBits : D → Option Rv
  | .int i => some (di (Builtin.Int.intBits i : Nat))
  | _ => none
theorem xe_bits {o : Expr} {fa : ME} {apos pos : Pos} (ho : XE X fa o) (hbase : attributeBase o "bit_length" X.env (eval o X.env) = eval o X.env := by rfl) (hline : (apos.endLine == pos.line) = true := by rfl) : XE X (mU dBits fa) (.Call (.Attribute o "bit_length" apos) [] [] pos) :=
  pe_weak (pe_bits ho hbase hline) fun σ H Q ⟨ρ, O, cs, z, cs', e, en, w, p⟩ => by
    obtain ⟨x, d, h1, h2, h3⟩ := mU_some e
    refine ⟨ρ, O, cs, x, cs', h1, en, w, fun v1 H1 c1 w1 r1 => ?_⟩
    have sx := r1.deg.sh w1 h2
    cases d with
    | int i =>
      cases h3
      exact ⟨i, sx.int, post_int w1 (p.step c1 w1)⟩
    | _ => cases h3
end
end DL
namespace DL
open PySem PySem.Spec PyProof.Rows L2
section
variable {X : Cx}
/-! dicts: locked as soon as they are made -/
def lockQ (Q : VK) : VK := fun v H' => ∃ p kvs, v = .ref p ∧ H' p = some (.dK kvs) ∧ ∀ od, Q v (upd H' p (.frz od (.dK kvs)))
theorem ep_lock {pins : List (Addr × Obj)} {σ : L2.St} {Q : VK} {u : Value} {s : Shared} (h : EP X pins σ (lockQ Q) u s) : EP X pins σ Q u s := by
  obtain ⟨v, H', I, r, p, kvs, rfl, e, q⟩ := h
  obtain ⟨od, I2⟩ := I.lock e trivial
  exact ⟨_, _, I2, r, q od⟩
theorem pe_lockQ {e : Expr} {t : TE} (h : PE X e t) : PE X e (fun σ H Q => t σ H (lockQ Q)) := ⟨fun pins s σ H Q I q => thn (h.run pins s σ H _ I q) fun u s1 z => ep_lock z⟩
theorem callR_lockQ {f : Value} {r : List V → Hp → VK → Prop} (h : CallR X f r) : CallR X f (fun xs H Q => r xs H (lockQ Q)) := fun pins s σ H xs us Q I rv q => thn (h pins s σ H xs us _ I rv q) fun u s1 z => ep_lock z
theorem post_dict {K : PySem.W.Frag} {O : List (Option Addr)} {cs : Cs} {H : Hp} {Q : VK} {kvs : List (Key × V)} {ds : List (D × D)} (w : Wd K O cs H) (e : kvs.map (fun p => kD p.1) = ds.map (·.1)) (r : RpAll K (hd O H) (kvs.map (·.2)) (ds.map (·.2))) (h : PostX K O H (.dat (.dict ds)) cs Q) :
    ∀ p, H p = none → lockQ Q (.ref p) (upd H p (.dK kvs)) := fun p hp => by
  refine ⟨p, kvs, rfl, upd_same, fun od => ?_⟩
  have e2 : upd (upd H p (.dK kvs)) p (.frz od (.dK kvs)) = upd H p (.frz od (.dK kvs)) := by
    funext a
    by_cases c : a = p
    · subst c; rw [upd_same, upd_same]
    · rw [upd_ne c, upd_ne c, upd_ne c]
  rw [e2]
  exact h _ _ (ch_new hp) (w.new hp) (.dct (hd_of (w.fresh hp) upd_same) e (r.mono (ch_new hp).data))
/-! displays of constants -/
theorem xe_dict0 {pos : Pos} : XE X (xC (.dict [])) (.Dict [] [] pos) := pe_weak (pe_lockQ pe_dnewK) fun σ H Q ⟨ρ, O, cs, r', cs', e, en, w, p⟩ => by
  cases e
  exact post_dict (kvs := []) w rfl .nil p
theorem tPairs_c {σ : L2.St} {H : Hp} {Q : List (V × V) → Hp → Prop} : ∀ {kvs : List (Key × V)} {Q : List (V × V) → Hp → Prop}, Q (kvs.map fun p => (kV p.1, p.2)) H → tPairs (kvs.map fun p => (tC (kV p.1), tC p.2)) σ H Q
  | [], _, q => q
  | kv :: r, Q, q => by
    show tC (kV kv.1) σ H fun x H1 => tC kv.2 σ H1 fun y H2 => tPairs _ σ H2 fun ps H3 => Q ((x, y) :: ps) H3
    exact tPairs_c (kvs := r) (Q := fun ps H3 => Q ((kV kv.1, kv.2) :: ps) H3) q
theorem merge_nodup : ∀ {kvs acc : List (Key × V)}, ((acc ++ kvs).map (·.1)).Nodup → mergeK acc kvs = acc ++ kvs
  | [], acc, _ => (List.append_nil acc).symm
  | kv :: r, acc, h => by
    have hk : (acc.any fun p => decide (p.1 = kv.1)) = false := by
      rw [List.any_eq_false]
      intro p hp hq
      have := of_decide_eq_true hq
      rw [List.map_append, List.map_cons, List.nodup_append] at h
      exact h.2.2 p.1 (List.mem_map.mpr ⟨p, hp, rfl⟩) kv.1 (List.mem_cons_self ..) this
    show mergeK (putK acc kv.1 kv.2) r = _
    have e : putK acc kv.1 kv.2 = acc ++ [kv] := by
      unfold putK
      rw [if_neg (by rw [hk]; decide)]
    rw [e, merge_nodup (by rw [List.append_assoc]; exact h), List.append_assoc]
    rfl
/-- the pairs are constants -/
theorem xe_dictC {pos : Pos} {keys : List (Option Expr)} {values : List Expr} {kvs : List (Key × V)} {ds : List (D × D)} (h : PPs X pos keys values (kvs.map fun p => (tC (kV p.1), tC p.2))) (hall : keys.all (·.isSome) = true) (hl : keys.length = values.length) (h0 : keys ≠ [])
    (h15 : keys.length ≤ 15) (hk15 : kvs.length ≤ 15) (hn : (kvs.map (·.1)).Nodup) (e : kvs.map (fun p => kD p.1) = ds.map (·.1)) (r : ∀ K H, RpAll K H (kvs.map (·.2)) (ds.map (·.2))) : XE X (xC (.dict ds)) (.Dict keys values pos) :=
  pe_weak (pe_lockQ (pe_disp h hall hl h0 h15)) fun σ H Q ⟨ρ, O, cs, r', cs', e0, en, w, p⟩ => by
    cases e0
    intro q hq
    refine tPairs_c (Q := fun ps H2 => H2 q = some (.dK []) ∧ ∃ kvs : List (Key × V), ps = kvs.map (fun kv => (kV kv.1, kv.2)) ∧ kvs.length ≤ 15 ∧ lockQ Q (.ref q) (upd H2 q (.dK (mergeK [] kvs)))) ⟨upd_same, kvs, rfl, hk15, ?_⟩
    have e2 : upd (upd H q (.dK [])) q (.dK (mergeK [] kvs)) = upd H q (.dK kvs) := by
      rw [merge_nodup (by simpa using hn), List.nil_append]
      funext a
      by_cases c : a = q
      · subst c; rw [upd_same, upd_same]
      · rw [upd_ne c, upd_ne c, upd_ne c]
    rw [e2]
    exact post_dict w e (r _ _) p q hq
/-! d[k] -/
def keyOf : D → Option Key
  | .int i => some (.inl i)
  | .str x => some (.inr x)
  | _ => none
theorem keyOf_v {K : PySem.W.Frag} {O : List (Option Addr)} {H : Hp} {v : V} {d : D} {k : Key} (h : Sh K O H v d) (e : keyOf d = some k) : v = kV k ∧ d = kD k := by
  cases d with
  | int i => cases e; exact ⟨h.int, rfl⟩
  | str x => cases e; exact ⟨h.str.1, rfl⟩
  | _ => cases e
def eqK : D → Key → Bool
  | .int i, .inl j => decide (i = j)
  | .str x, .inr y => decide (x = y)
  | _, _ => false
theorem eqK_kD {k j : Key} : eqK (kD k) j = decide (k = j) := by
  cases k <;> cases j <;> simp [eqK, kD]
def look : List (D × D) → Key → Option D
  | [], _ => none
  | p :: r, k => if eqK p.1 k = true then some p.2 else look r k
theorem look_v {K : PySem.W.Frag} {H : Hp} {k : Key} : ∀ {kvs : List (Key × V)} {ds : List (D × D)} {d : D}, kvs.map (fun p => kD p.1) = ds.map (·.1) → RpAll K H (kvs.map (·.2)) (ds.map (·.2)) → look ds k = some d → ∃ v, valV kvs k = some v ∧ Rp K H v d
  | [], [], _, _, _, e => by cases e
  | kv :: r, p :: ds, d, e, q, l => by
    rw [List.map_cons, List.map_cons] at e q
    have e1 := (List.cons.inj e).1
    have e2 := (List.cons.inj e).2
    cases q with
    | cons a q =>
      unfold look at l
      rw [← e1, eqK_kD] at l
      by_cases c : kv.1 = k
      · rw [if_pos (decide_eq_true c)] at l
        cases l
        exact ⟨kv.2, valV_pos c, a⟩
      · rw [if_neg (by simpa using c)] at l
        rw [valV_neg c]
        exact look_v e2 q l
  | [], _ :: _, _, e, _, _ => by cases e
  | _ :: _, [], _, e, _, _ => by cases e
def dDGet : D → D → Option Rv
  | .dict ds, k => if isFn ds = true then none else (keyOf k).bind fun k => (look ds k).map .dat
  | _, _ => none
theorem xe_dget {o i : Expr} {fa fb : ME} {pos : Pos} (rm : Rm X) (ho : XE X fa o) (hi : XE X fb i) (hs : NoSl i := by exact fun _ _ => rfl) : XE X (mB dDGet fa fb) (.Subscript o i pos) :=
  pe_weak (pe_dget (by have := rm.un; omega) ho hi hs) fun σ H Q ⟨ρ, O, cs, z, cs', e, en, w, p⟩ => by
    obtain ⟨x, cs1, y, d, e', h1, h2, h3, h4, h5⟩ := mB_some e
    refine ⟨ρ, O, cs, x, cs1, h1, en, w, fun v1 H1 c1 w1 r1 => ?_⟩
    refine ⟨ρ, O, cs1, y, cs', h2, en.ch c1, w1, fun v2 H2 c2 w2 r2 => ?_⟩
    have sx := (r1.deg.ch c2).sh w2 h3
    have sy := r2.deg.sh w2 h4
    cases d with
    | dict ds =>
      have h5 : (if isFn ds = true then none else (keyOf e').bind fun k => (look ds k).map Rv.dat) = some z := h5
      by_cases hf : isFn ds = true
      · rw [if_pos hf] at h5; cases h5
      rw [if_neg hf] at h5
      obtain ⟨k, g1, g2⟩ := Option.bind_eq_some_iff.mp h5
      obtain ⟨t, g3, rfl⟩ := Option.map_eq_some_iff.mp g2
      obtain ⟨a, kvs, rfl, q, e1, r⟩ := sx.dict (by simpa using hf)
      obtain ⟨u, l1, l2⟩ := look_v e1 r g3
      exact ⟨a, u, rfl, .inl ⟨kvs, k, q, (keyOf_v sy g1).1, l1.symm⟩, post_val w2 l2 (p.step (c1.trans c2) w2)⟩
    | _ => cases h5
/-! dict(pairs) -/
def prOf : D → Option (Key × D)
  | .tuple [k, v] => (keyOf k).map fun k => (k, v)
  | _ => none
def prsOf : List D → Option (List (Key × D))
  | [] => some []
  | d :: r => (prOf d).bind fun p => (prsOf r).map fun ps => p :: ps
def dDict : List D → Option Rv
  | [.list ds] => (prsOf ds).bind fun ps => if (ps.map (·.1)).Nodup then some (.dat (.dict (ps.map fun p => (kD p.1, p.2)))) else none
  | _ => none
theorem prsOf_v {K : PySem.W.Frag} {O : List (Option Addr)} {H : Hp} : ∀ {ds : List D} {vs : List V} {ps : List (Key × D)}, RpAll K (hd O H) vs ds → prsOf ds = some ps →
    ∃ (as : List Addr) (kvs : List (Key × V)), vs = as.map V.ref ∧ Paired (fun p kv => SqT K H p [kV kv.1, kv.2]) as kvs ∧ kvs.map (·.1) = ps.map (·.1) ∧ RpAll K (hd O H) (kvs.map (·.2)) (ps.map (·.2))
  | [], vs, ps, r, e => by cases r; cases e; exact ⟨[], [], rfl, .nil, rfl, .nil⟩
  | d :: ds, vs, ps, r, e => by
    obtain ⟨p, h1, h2⟩ := Option.bind_eq_some_iff.mp e
    obtain ⟨qs, h3, h4⟩ := Option.map_eq_some_iff.mp h2
    subst h4
    cases r with
    | cons a t =>
      obtain ⟨as, kvs, e1, e2, e3, e4⟩ := prsOf_v t h3
      subst e1
      unfold prOf at h1
      split at h1
      · rename_i k v
        obtain ⟨k', g1, g2⟩ := Option.map_eq_some_iff.mp h1
        subst g2
        cases a with
        | tup q r2 =>
          cases r2 with
          | cons b1 r2 =>
            cases r2 with
            | cons b2 r2 =>
              cases r2
              rename_i ad u1 u2
              have ek := (keyOf_v (O := O) (.inl b1 : Sh K O H u1 k) g1).1
              refine ⟨ad :: as, (k', u2) :: kvs, rfl, .cons ?_ e2, by simp [e3], .cons b2 e4⟩
              rw [← ek]
              exact sqT_mono hd_le q
      · cases h1
theorem dictCS {K : PySem.W.Frag} : CaS K (fun xs H Q => ∃ (a : Addr) (ps : List Addr) (kvs : List (Key × V)), xs = [.ref a] ∧ SqL K H a (ps.map V.ref) ∧ Paired (fun p kv => SqT K H p [kV kv.1, kv.2]) ps kvs ∧
    ∀ p, H p = none → lockQ Q (.ref p) (upd H p (.dK (mergeK [] kvs)))) dDict := by
  intro O cs H vs ds z Q w hp g p
  match ds, g, hp with
  | [.list ds], g, hp =>
    obtain ⟨x, rfl, sx⟩ := Paired.one hp
    obtain ⟨ps, h1, g⟩ := Option.bind_eq_some_iff.mp g
    obtain ⟨hz, rfl⟩ := ite_some g
    obtain ⟨a, vs, rfl, q, r⟩ := sx.list
    obtain ⟨as, kvs, rfl, e2, e3, e4⟩ := prsOf_v r h1
    refine ⟨a, as, kvs, rfl, q.sq, e2, ?_⟩
    rw [merge_nodup (by rw [List.nil_append, e3]; exact hz), List.nil_append]
    refine post_dict w ?_ ?_ p
    · have : kvs.map (fun p => kD p.1) = (kvs.map (·.1)).map kD := by rw [List.map_map]; rfl
      rw [this, e3, List.map_map, List.map_map]
      rfl
    · rw [List.map_map]
      exact e4
theorem xe_dictP {e : Expr} {fa : MA} {p pos : Pos} (rm : Rm X) (hg : Gl X "dict") (hm : X.mg "dict" = none) (ha : XA X fa [e]) (he : starEach [e] X.env = (false, eval e X.env) :: starEach [] X.env := by rfl) : XE X (mCall dDict fa) (.Call (.Name "dict" p) [e] [] pos) :=
  xe_callTy (callR_lockQ (call_dictP rm.calm)) dictCS hg hm (by decide +kernel) ha (he := he)
end
end DL
namespace DL
open PySem PySem.Spec PyProof.Rows L2
/-! ### recursion: with fuel -/
def recM (n : Nat) (b : MF → MS) : Nat → MF
  | 0 => fun _ _ => none
  | i + 1 => fnM n (b (recM n b i))
theorem fnD_zero {P : Program} {w : World} {K : PySem.W.Frag} {mg : Str → Option Value} {base : Heap} {k : Nat} {f : Addr} {fd : FuncData} {ps : List Str} : FnD P w K mg base k f fd ps (fun _ _ => none) :=
  ⟨fun A outer s H args us vs Q rs O cs r cs' _ _ _ _ _ _ _ _ _ e _ => nomatch e⟩
theorem fnD_rec {P : Program} {w : World} {K : PySem.W.Frag} {mg : Str → Option Value} {base : Heap} {k : Nat} {f : Addr} {fd : FuncData} {ps : List Str} {n : Nat} {b : MF → MS}
    (step : ∀ (j : Nat) (m : MF), FnD P w K mg base (k + j) f fd ps m → FnD P w K mg base (k + j + 1) f fd ps (fnM n (b m))) : ∀ i : Nat, FnD P w K mg base (k + i) f fd ps (recM n b i)
  | 0 => fnD_zero
  | i + 1 => step i _ (fnD_rec step i)
/-! ### the end of a law -/
theorem hd_nil {H : Hp} : hd [] H = H := by
  funext a
  unfold hd
  rw [if_neg (by simp [live])]
theorem ints_rp {K : PySem.W.Frag} {H : Hp} : ∀ {ns : List Int}, RpAll K H (ns.map V.int) (ns.map PyData.int)
  | [] => .nil
  | n :: _ => .cons (.int n) ints_rp
/-- what is known of the heap when the law's def is called -/
structure Pre (s : Shared) (a : Addr) (vs : List Value) (ns : List Int) : Prop where
  nogen : s.gens = #[]
  scr : s.heap.get? a = some { cls := .type "list", data := .seq vs.toArray }
  areI : IntsAre vs ns
  fit : ns.length ≤ sizeLine
/-- the heap that the def sees -/
structure Seen (P : Program) (w : World) (K : PySem.W.Frag) (s : Shared) (a : Addr) (H : Hp) (ns : List Int) : Prop where
  only : Only H
  rp : Rp K H (.ref a) (.list (ns.map .int))
  ok : HOk P w H s.heap
  at_a : ∀ b, H b ≠ none → b = a
  unk : H a ≠ none → K.lookup a = none
def scrO (vs : List Value) : Obj := { cls := .type "list", data := .seq vs.toArray }
def oneH (a : Addr) (o : HO) : Hp := fun b => if b = a then some o else none
theorem oneH_at {a : Addr} {o : HO} : oneH a o a = some o := if_pos rfl
theorem oneH_cases {a b : Addr} {o u : HO} (h : oneH a o b = some u) : b = a ∧ u = o := by
  unfold oneH at h
  split at h
  · exact ⟨by assumption, (Option.some.inj h).symm⟩
  · cases h
theorem seen_of {P : Program} {w : World} {K : PySem.W.Frag} {s : Shared} {a : Addr} {vs : List Value} {ns : List Int} (KX : K.In s.heap) (p : Pre s a vs ns) : ∃ H, Seen P w K s a H ns := by
  have rv := vals_ints p.areI
  have hz : (ns.map V.int).length ≤ sizeLine := by rw [List.length_map]; exact p.fit
  cases hk : K.lookup a with
  | some o =>
    have e := (KX a o hk).symm.trans p.scr
    have e' : o = { cls := .type "list", data := .seq vs.toArray } := Option.some.inj e
    subst e'
    exact ⟨fun _ => none, fun _ => .inl rfl, .lst (.inr ⟨vs, _, hk, hz, rv⟩) ints_rp, (fun _ _ z => nomatch z), fun _ z => (z rfl).elim, fun z => (z rfl).elim⟩
  | none =>
    refine ⟨oneH a (.frz (scrO vs) (.lst (ns.map V.int))), fun b => ?_, .lst (.inl (.inr ⟨_, oneH_at⟩)) ints_rp, fun b u z => ?_, fun b z => ?_, fun _ => hk⟩
    · cases q : oneH a (.frz (scrO vs) (.lst (ns.map V.int))) b with
      | none => exact .inl rfl
      | some u => exact .inr ⟨_, _, by rw [(oneH_cases q).2]⟩
    · obtain ⟨e1, e2⟩ := oneH_cases z
      subst e1 e2
      exact ⟨p.scr, hz, vs, _, rv, p.scr⟩
    · cases q : oneH a (.frz (scrO vs) (.lst (ns.map V.int))) b with
      | none => exact absurd q z
      | some u => exact (oneH_cases q).1
section
variable {P : Program} {w : World} {K : PySem.W.Frag} {s : Shared} {a : Addr} {vs : List Value} {ns : List Int} {H : Hp}
theorem Seen.base (p : Pre s a vs ns) (S : Seen P w K s a H ns) {b : Addr} {m : Str → Option Value} (h : s.heap.Ns b m) : (hidT s.heap H).Ns b m := by
  obtain ⟨o, es, ep, e, d, r⟩ := h
  refine ⟨o, es, ep, hidT_get e ?_, d, r⟩
  cases q : H b with
  | none => rfl
  | some u =>
    have eb := S.at_a b (by rw [q]; exact nofun)
    rw [eb, p.scr] at e
    have e' := Option.some.inj e
    subst e'
    exact nomatch (show Data.seq vs.toArray _ = Data.dict es ep from d)
theorem Seen.kin (KX : K.In s.heap) (S : Seen P w K s a H ns) : K.In (hidT s.heap H) := fun b o e => hidT_get (KX b o e) (by
  cases q : H b with
  | none => rfl
  | some u =>
    have n0 : H b ≠ none := by rw [q]; exact nofun
    have eb := S.at_a b n0
    subst eb
    exact nomatch (S.unk n0).symm.trans e)
theorem Seen.env {mg mb : Str → Option Value} (KX : K.In s.heap) (p : Pre s a vs ns) (S : Seen P w K s a H ns) (hns : s.heap.Ns mainGlobals mg) (hb : s.heap.Ns builtinsNs mb) (hbb : ∀ x : Str, x ≠ "__name__" → mb x = bootBuiltins x) (hlim : s.heap.NoLimit) : Env0 P w K mg (hidT s.heap H) callerA [] s H := by
  refine ⟨rfl, ⟨S.kin KX, S.base p hns, ⟨mb, S.base p hb, hbb⟩, ?_⟩, fun _ _ => of_hidT, Nat.le_of_eq (hidT_size _ _), trivial, fun _ z => absurd z List.not_mem_nil, S.ok, .of_eq p.nogen⟩
  obtain ⟨mc, h1, h2⟩ := hlim
  exact ⟨mc, S.base p h1, h2⟩
end
theorem law_callD {P : Program} {w : World} {K : PySem.W.Frag} {mg mb : Str → Option Value} {k : Nat} {fa a : Addr} {fd : FuncData} {x : Str} {m : MF} {s : Shared} {vs : List Value} {ns : List Int}
    (KX : K.In s.heap) (hns : s.heap.Ns mainGlobals mg) (hb : s.heap.Ns builtinsNs mb) (hbb : ∀ x : Str, x ≠ "__name__" → mb x = bootBuiltins x) (hlim : s.heap.NoLimit) (hnd : s.heap.NoDigits) (p : Pre s a vs ns) (hr : Room k callerA)
    (F : ∀ base : Heap, K.In base → base.Ns mainGlobals mg → FnD P w K mg base k fa fd [x] m) (hbind : ∀ (s : Shared) (u : Value), BindsTo s fd ⟨[u], []⟩ [(x, u)]) (hm : m [.dat (.list (ns.map .int))] [] = some (.dat (.bool true), [])) :
    codeAny (model P w) callerA (.call (.ref fa) ⟨[.ref a], []⟩) (fun r t => r = .ok (.ret (.bool true)) ∧ OldK s.heap t.heap ∧ t.os = s.os ∧ AllBare t.gens) s := by
  obtain ⟨H, S⟩ := seen_of (P := P) (w := w) KX p
  have nd : (hidT s.heap H).NoDigits := by
    obtain ⟨mc, h1, h2⟩ := hnd
    exact ⟨mc, S.base p h1, h2⟩
  have wd : Wd K [] [] H := ⟨rfl, fun _ _ _ h => by simp at h, fun _ _ h => by simp at h, fun _ h => by simp at h⟩
  have ar : ArRs K [] H [.dat (.list (ns.map .int))] [.ref a] := ⟨by show Rp K (hd [] H) _ _; rw [hd_nil]; exact S.rp, trivial⟩
  refine codeAny_mono ((F _ (S.kin KX) (S.base p hns)).run callerA [] s H ⟨[.ref a], []⟩ [.ref a] [.ref a] (fun v _ => v = .bl true) _ [] [] _ _ rfl nd hr (S.env KX p hns hb hbb hlim) (hbind s (.ref a)) (.cons rfl .nil) rfl wd ar hm fun v H' _ _ rv => ?_) fun r t h => ?_
  · have rv' : Rp K (hd [] H') v (.bool true) := rv
    cases rv'
    rfl
  · cases r with
    | error e => exact False.elim h
    | ok fl =>
      cases fl with
      | ret u =>
        obtain ⟨v, H', os, bare, un, ok', ru, ev⟩ := h
        have ev' : v = .bl true := ev
        subst ev'
        cases (show u = Value.bool true from ru)
        refine ⟨rfl, OldK.of_keep fun b o e => ?_, os, bare⟩
        cases q : H b with
        | none => exact un.keep b o e q (fun z => absurd z List.not_mem_nil) (by simp)
        | some t =>
          rcases S.only b with z | ⟨ob, xs, z⟩
          · exact nomatch q.symm.trans z
          · have e1 := (S.ok b _ z).1
            have e2 := (ok' b _ (un.frzs b ob _ z)).1
            rw [Option.some.inj (e.symm.trans e1)]
            exact e2
      | next => exact False.elim h
      | brk => exact False.elim h
      | cont => exact False.elim h
/-- the law's walk, from its mirror -/
theorem walk_ofD {l : PySem.W.OpenLaw} {n k : Nat} {q : Program} {loose : List Str} {XP : (Str → Option Value) → Heap → Prop} {YP : World → Heap → Prop} {d : DefRec} {x : Str} {m : MF}
    (hn : l.most = some n) (hn2 : n ≤ sizeLine) (hdf : d.params.defaults = []) (hr : Room k callerA)
    (F : ∀ (w : World) (mg : Str → Option Value) (fa : Addr) (h : Heap), YP w h → h.Ns mainGlobals mg → mg d.name = some (.ref fa) →
      ∃ (K : PySem.W.Frag) (fd : FuncData), K.In h ∧ (∀ (s : Shared) (u : Value), BindsTo s fd ⟨[u], []⟩ [(x, u)]) ∧ ∀ base : Heap, K.In base → base.Ns mainGlobals mg → FnD l.prog w K mg base k fa fd [x] m)
    (hm : ∀ ns : List Int, ns.length ≤ n → (∀ z ∈ ns, Builtin.Int.intBits z ≤ 1048576) → m [.dat (.list (ns.map .int))] [] = some (.dat (.bool true), [])) :
    PySem.W.WalkO q loose XP YP l.row.toRowW d [] (fun f vs => PySem.call f vs) := by
  refine Att.attach_callB hn hdf fun w s₀ s mg mb fa o pm cd doc a vs ns G Y _ _ _ hmg hobj hints hlen hbits hg => ?_
  obtain ⟨K, fd, KX, hb, hF⟩ := F w mg fa _ Y G.T.g hmg
  exact law_callD KX G.T.g G.T.b G.T.builtins G.T.nolimit G.T.nodigits ⟨hg, hobj, hints, Nat.le_trans hlen hn2⟩ hr hF hb (hm ns hlen hbits)
end DL
namespace DL
open PySem PySem.Spec PyProof.Rows L2
section
variable {X : Cx}
theorem Rm.blk (rm : Rm X) {s : Shared} {H : Hp} {sc : Scope} {ce : Env} {fp : List Addr} : Rm (X.blk s H sc ce fp) := ⟨rm.hd, rm.un, rm.gd, rm.calm, rm.nd⟩
/-- a def, ready to be called -/
structure Cal (P : Program) (w : World) (K : PySem.W.Frag) (mg : Str → Option Value) (base : Heap) (k : Nat) (x : Str) (st : Stmt) (ps : List Str) (m : MF) : Prop where
  ex : ∃ (f : Addr) (fd : FuncData), FunD K x x (defArgs st) (defBody st) (defScope st) [] [] f fd ∧ FnD P w K mg base k f fd ps m ∧ mg x = some (.ref f) ∧ Binds K fd ps []
variable {k j : Nat} {x : Str} {st : Stmt} {ps : List Str} {m : MF}
theorem w_call {n : Nat} {e : Expr} {es : List Expr} {fa : MA} {p pos : Pos} (C : Cal X.prog X.w X.K X.mg X.base j x st ps m) (hr : Room k X.A) (rm : Rm X) (ha : XA X fa (e :: es)) (hj : j ≤ k := by decide) (hg : Gl X x := by rfl) (hdb : (x == ("__debug__" : Str)) = false := by decide)
    (he : starEach (e :: es) X.env = (false, eval e X.env) :: starEach es X.env := by rfl) (hpl : (backTo pos (starEach es X.env)).any (·.1) = false := by rfl) (hn : ps.length = n := by rfl) : XE X (mCallF n m fa) (.Call (.Name x p) (e :: es) [] pos) := by
  subst hn
  obtain ⟨f, fd, F, G, hm, hb⟩ := C.ex
  exact xe_call G (hr.mono hj) rm hg hm F.kp hb ha hdb he hpl
theorem w_call0 {n : Nat} {p pos : Pos} (C : Cal X.prog X.w X.K X.mg X.base j x st ps m) (hr : Room k X.A) (rm : Rm X) (hj : j ≤ k := by decide) (hg : Gl X x := by rfl) (hdb : (x == ("__debug__" : Str)) = false := by decide) (hn : ps.length = n := by rfl) : XE X (mCallF n m aNil) (.Call (.Name x p) [] [] pos) := by
  subst hn
  obtain ⟨f, fd, F, G, hm, hb⟩ := C.ex
  exact xe_call0 G (hr.mono hj) rm hg hm F.kp hb hdb
/-- the binding by keywords, as it computes -/
def KwC (x : Str) (st : Stmt) (ps : List Str) (n : Nat) (ks : List Str) (π : List Nat) : Prop := ∀ (kV doc pm : Value) (an : Option Addr) (cdv ct : Value) (us ws : List Value), us.length = n → ws.length = ks.length →
  bindArgs (PySem.W.fnOf x x (defArgs st) (defBody st) (defScope st) .none kV doc pm an cdv ct) ⟨us, ks.zip ws⟩ = pure (ps.zip (pick π (us ++ ws)))
theorem kwB_of {K : PySem.W.Frag} {f : Addr} {fd : FuncData} {n : Nat} {ks : List Str} {π : List Nat} (F : FunD K x x (defArgs st) (defBody st) (defScope st) [] [] f fd) (h : KwC x st ps n ks π) : KwB K fd ps n ks π := by
  obtain ⟨oc, od, dV, kV, doc, pm, an, cdv, ct, osl, rfl, lk, hcd, hD, hK⟩ := F.ex
  rcases hD with ⟨_, rfl⟩ | ⟨e, _⟩
  · exact ⟨fun s us ws _ h1 h2 => .of_eq (h kV doc pm an cdv ct us ws h1 h2)⟩
  · exact absurd rfl e
theorem w_callK {n n1 n2 : Nat} {ks : List Str} {π : List Nat} {e : Expr} {es : List Expr} {kws : List Keyword} {fa fk : MA} {p pos : Pos} (C : Cal X.prog X.w X.K X.mg X.base j x st ps m) (hr : Room k X.A) (rm : Rm X) (hb : KwC x st ps n ks π) (ha : XA X fa (e :: es)) (hkw : XK X fk kws) (hj : j ≤ k := by decide) (hg : Gl X x := by rfl)
    (hall : (backToKw pos (keywordEach kws X.env)).all (·.1.isSome) = true := by rfl) (hks : (backToKw pos (keywordEach kws X.env)).filterMap (·.1) = ks := by rfl)
    (hdb : (x == ("__debug__" : Str)) = false := by decide) (he : starEach (e :: es) X.env = (false, eval e X.env) :: starEach es X.env := by rfl)
    (hpl : ((backTo pos (starEach (e :: es) X.env)).any (·.1) || (backToKw pos (keywordEach kws X.env)).any (·.1.isNone)) = false := by rfl) (e1 : ks.length = n1 := by rfl) (e2 : ps.length = n2 := by rfl) : XE X (mCallK n n1 n2 π m fa fk) (.Call (.Name x p) (e :: es) kws pos) := by
  subst e1 e2
  obtain ⟨f, fd, F, G, hm, _⟩ := C.ex
  exact xe_callK G (hr.mono hj) rm hg hm F.kp (kwB_of F hb) ha hkw hall hks hdb he hpl
theorem w_callK0 {n1 n2 : Nat} {ks : List Str} {π : List Nat} {kws : List Keyword} {fk : MA} {p pos : Pos} (C : Cal X.prog X.w X.K X.mg X.base j x st ps m) (hr : Room k X.A) (rm : Rm X) (hb : KwC x st ps 0 ks π) (hkw : XK X fk kws) (hj : j ≤ k := by decide) (hg : Gl X x := by rfl)
    (hall : (backToKw pos (keywordEach kws X.env)).all (·.1.isSome) = true := by rfl) (hks : (backToKw pos (keywordEach kws X.env)).filterMap (·.1) = ks := by rfl)
    (hdb : (x == ("__debug__" : Str)) = false := by decide)
    (hpl : ((backTo pos (starEach [] X.env)).any (·.1) || (backToKw pos (keywordEach kws X.env)).any (·.1.isNone)) = false := by rfl) (e1 : ks.length = n1 := by rfl) (e2 : ps.length = n2 := by rfl) : XE X (mCallK 0 n1 n2 π m aNil fk) (.Call (.Name x p) [] kws pos) := by
  subst e1 e2
  obtain ⟨f, fd, F, G, hm, _⟩ := C.ex
  exact xe_callK0 G (hr.mono hj) rm hg hm F.kp (kwB_of F hb) hkw hall hks hdb hpl
/-- a def's own contract -/
theorem cal_of {P : Program} {w : World} {K : PySem.W.Frag} {mg : Str → Option Value} {base : Heap} {N : List Str} {b : MS} (F : ∃ f fd, FunD K x x (defArgs st) (defBody st) (defScope st) [] [] f fd ∧ mg x = some (.ref f)) (S : FnScope N ps (defScope st))
    (hb : ∀ (kV doc pm : Value) (an : Option Addr) (cdv ct : Value) (us : List Value), us.length = ps.length → bindArgs (PySem.W.fnOf x x (defArgs st) (defBody st) (defScope st) .none kV doc pm an cdv ct) ⟨us, []⟩ = pure (ps.zip us))
    (h : ∀ (f : Addr) (cdv : Value) (A : Around) (outer : List Env) (s : Shared) (H : Hp), Room k (A.deeper (envOfC x (defScope st) s.heap.objs.size f cdv)) → Rm (cxD P w K mg base N x (defScope st) f cdv A outer s H) → XSs (cxD P w K mg base N x (defScope st) f cdv A outer s H) b (defBody st)) :
    Cal P w K mg base (k + 1) x st ps (fnM N.length b) := by
  obtain ⟨f, fd, F, hm⟩ := F
  exact ⟨f, fd, F, fnD_of F S fun cdv A outer s H hr rm => h f cdv A outer s H hr rm, hm, F.bindsN hb⟩
theorem Cal.mono {P : Program} {w : World} {K : PySem.W.Frag} {mg : Str → Option Value} {base : Heap} {i : Nat} (C : Cal P w K mg base k x st ps m) (h : k ≤ i) : Cal P w K mg base i x st ps m := by
  obtain ⟨f, fd, F, G, hm, hb⟩ := C.ex
  exact ⟨f, fd, F, G.mono h, hm, hb⟩
/-- a def that calls itself: fuel i -/
theorem cal_rec {P : Program} {w : World} {K : PySem.W.Frag} {mg : Str → Option Value} {base : Heap} {N : List Str} {b : MF → MS} (i : Nat) (F : ∃ f fd, FunD K x x (defArgs st) (defBody st) (defScope st) [] [] f fd ∧ mg x = some (.ref f)) (S : FnScope N ps (defScope st))
    (hb : ∀ (kV doc pm : Value) (an : Option Addr) (cdv ct : Value) (us : List Value), us.length = ps.length → bindArgs (PySem.W.fnOf x x (defArgs st) (defBody st) (defScope st) .none kV doc pm an cdv ct) ⟨us, []⟩ = pure (ps.zip us))
    (h : ∀ (l : Nat) (m : MF), Cal P w K mg base (k + l) x st ps m → ∀ (f : Addr) (cdv : Value) (A : Around) (outer : List Env) (s : Shared) (H : Hp), Room (k + l) (A.deeper (envOfC x (defScope st) s.heap.objs.size f cdv)) → Rm (cxD P w K mg base N x (defScope st) f cdv A outer s H) → XSs (cxD P w K mg base N x (defScope st) f cdv A outer s H) (b m) (defBody st)) :
    Cal P w K mg base (k + i) x st ps (recM N.length b i) := by
  obtain ⟨f, fd, F, hm⟩ := F
  exact ⟨f, fd, F, fnD_rec (fun l m G => fnD_of F S fun cdv A outer s H hr rm => h l m ⟨f, fd, F, G, hm, F.bindsN hb⟩ f cdv A outer s H hr rm) i, hm, F.bindsN hb⟩
/-! words: what is seen of the text is found by rfl -/
theorem w_var (i : Nat) {pos : Pos} (hN : X.N[i]? = some x := by rfl) (hv : Vis X.env.scope x := by first | exact Or.inl rfl | exact Or.inr (Or.inl rfl) | exact Or.inr (Or.inr rfl)) (hd : (x == ("__debug__" : Str)) = false := by decide) (hcd : (x == ("__classdict__" : Str)) = false := by decide) : XE X (xVar i) (.Name x pos) := xe_var hN hv hd hcd
theorem w_gint {i : Int} {pos : Pos} (hm : ∃ t, X.mg x = some (.int i t)) (hg : Gl X x := by rfl) (hd : (x == ("__debug__" : Str)) = false := by decide) : XE X (xC (.int i)) (.Name x pos) := by
  obtain ⟨t, ht⟩ := hm
  exact xe_gint hg ht hd
theorem w_gstr {z : Str} {pos : Pos} (hm : ∃ t, X.mg x = some (.str z t)) (hg : Gl X x := by rfl) (hd : (x == ("__debug__" : Str)) = false := by decide) (h : z.length ≤ sizeLine := by decide +kernel) : XE X (xC (.str z)) (.Name x pos) := by
  obtain ⟨t, ht⟩ := hm
  exact xe_gstr hg ht hd h
theorem w_set (i : Nat) {e : Expr} {f : ME} {pos pos' : Pos} (hN : X.N.Nodup) (he : XE X f e) (hi : X.N[i]? = some x := by rfl) (hx : Loc X.env.scope x := by first | exact Or.inl rfl | exact Or.inr rfl) (hs : swapsWith e (some (.Name x pos')) pos.line X.env = pure false := by rfl)
    (hf : X.fn x = true ∨ X.env.scope.names.lookup x = some .local := by first | exact .inl rfl | exact .inr rfl) : XS X (sSet i f) (.Assign [.Name x pos'] e pos) := xs_set hN hi hx he hs hf
theorem w_own (i : Nat) {e : Expr} {f : ME} {pos pos' : Pos} (hN : X.N.Nodup) (he : XE X f e) (hi : X.N[i]? = some x := by rfl) (hx : Loc X.env.scope x := by first | exact Or.inl rfl | exact Or.inr rfl) (hs : swapsWith e (some (.Name x pos')) pos.line X.env = pure false := by rfl)
    (hf : X.fn x = true ∨ X.env.scope.names.lookup x = some .local := by first | exact .inl rfl | exact .inr rfl) : XS X (sOwn i f) (.Assign [.Name x pos'] e pos) := xs_own hN hi hx he hs hf
theorem w_gn (i : Nat) {pos : Pos} {vs : List Nat} (hN : X.N.Nodup) (hi : X.N[i]? = some x := by rfl) (hx : Loc X.env.scope x := by first | exact Or.inl rfl | exact Or.inr rfl) (hm : i ∈ vs := by simp) (hf : X.fn x = true ∨ X.env.scope.names.lookup x = some .local := by first | exact .inl rfl | exact .inr rfl) : XG X vs (gNm i) (.Name x pos) :=
  xg_name hN hi hx hm hf
theorem w_app (i : Nat) {e : Expr} {fe : ME} {p1 apos cpos pos : Pos} (he : XE X fe e) (hN : X.N[i]? = some x := by rfl) (hv : Vis X.env.scope x := by first | exact Or.inl rfl | exact Or.inr (Or.inl rfl) | exact Or.inr (Or.inr rfl))
    (hs : starEach [e] X.env = (false, eval e X.env) :: starEach [] X.env := by rfl)
    (hbase : attributeBase (.Name x p1) "append" X.env (eval (.Name x p1) X.env) = eval (.Name x p1) X.env := by rfl)
    (hfew : ((backTo cpos (starEach [e] X.env)).all (fun x => !x.1) && (backToKw cpos (keywordEach [] X.env)).all (fun x => x.1.isSome)
      && decide ([e].length + ([] : List Keyword).length + (if ([] : List Keyword).isEmpty then 0 else 1) < 30)) = true := by rfl)
    (hline : (apos.endLine == cpos.line) = true := by rfl) (hplain : (backTo cpos (starEach [] X.env)).any (·.1) = false := by rfl)
    (hsw : swapsWith (.Call (.Attribute (.Name x p1) "append" apos) [e] [] cpos) none pos.line X.env = pure false := by rfl)
    (hd : (x == ("__debug__" : Str)) = false := by decide) (hcd : (x == ("__classdict__" : Str)) = false := by decide) :
    XS X (sApp i fe) (.Expr (.Call (.Attribute (.Name x p1) "append" apos) [e] [] cpos) pos) := xs_app hN hv he hs hbase hfew hline hplain hsw hd hcd
theorem w_put (n : Nat) {i e : Expr} {fi fe : ME} {p1 p2 pos : Pos} (hi : XE X fi i) (he : XE X fe e) (hN : X.N[n]? = some x := by rfl) (hv : Vis X.env.scope x := by first | exact Or.inl rfl | exact Or.inr (Or.inl rfl) | exact Or.inr (Or.inr rfl))
    (ha : ∀ v, assign (.Subscript (.Name x p1) i p2) X.env v = (do
      let ov ← holding [v] (eval (.Name x p1) X.env)
      let iv ← holding [v, ov] (eval i X.env)
      standAt p2
      holding [v, ov, iv] (setItem ov iv v)
      release [v, ov, iv] []) := by intro _; rfl)
    (hs : swapsWithSole [.Subscript (.Name x p1) i p2] e pos.line X.env = pure false := by rfl) (hw : swappedStores [.Subscript (.Name x p1) i p2] e X.env = pure none := by rfl)
    (h1 : (assignEach [.Subscript (.Name x p1) i p2] X.env).map (·.2) = [assign (.Subscript (.Name x p1) i p2) X.env] := by rfl)
    (hd : (x == ("__debug__" : Str)) = false := by decide) (hcd : (x == ("__classdict__" : Str)) = false := by decide) :
    XS X (sPut n fi fe) (.Assign [.Subscript (.Name x p1) i p2] e pos) := xs_put hN hv hi he ha hs hw h1 hd hcd
theorem w_for (ws : List Nat) {tg iter : Expr} {body : List Stmt} {f : MI} {g : MG} {b : MS} {pos : Pos} (hi : XI X f tg iter) (hg : XG X ws g tg) (hb : XSs X b body) (hp : PassesOwn (model X.prog X.w) X.A X.env X.xe := by exact PassesOwn.never) (hc : X.calm = true := by rfl)
    (hs : ∀ x, foldedSetIterable iter X.env x = pure x := by intro _; rfl) : XS X (sFor f g b) (.For tg iter body [] pos) := xs_for hp hc hi hg hb hs
theorem w_while {c : Expr} {body : List Stmt} {t : MT} {b : MS} {pos : Pos} (hc : XT X t c) (hb : XSs X b body) (hp : PassesOwn (model X.prog X.w) X.A X.env X.xe := by exact PassesOwn.never) : XS X (sWh t b) (.While c body [] pos) := xs_while hp hc hb
end
end DL
namespace DL
open PySem PySem.Spec PyProof.Rows L2
section
variable {X : Cx}
/-! ### arguments some of which become owned cells at once -/
def tXAo (K : PySem.W.Frag) (f : MA) : TA := fun σ H Q => ∃ ρ O cs rs cs', f ρ cs = some (rs, cs') ∧ EnvOk K O H ρ σ ∧ Wd K O cs H ∧ ∀ vs O' H', Ext O.length O O' H → Ch O H H' → Wd K O' cs' H' → ArRs K O' H' rs vs → Q vs H'
def XAo (X : Cx) (f : MA) (es : List Expr) : Prop := PA X es (tXAo X.K f)
theorem ArR.extO {K : PySem.W.Frag} {O O' : List (Option Addr)} {H H' : Hp} {r : Rv} {v : V} (e : Ext O.length O O' H) (c : Ch O H H') (h : ArR K O r v H) : ArR K O' r v H' := by
  cases r with
  | dat d => exact Rp.mono (Sub.of e c) h
  | own k =>
    obtain ⟨a, ev, q⟩ := h
    exact ⟨a, ev, by rw [e.pre k (List.getElem?_eq_some_iff.mp q).1]; exact q⟩
  | fr c => exact h.elim
  | exn nm d => exact ExAt.mono (Sub.of e c) h
theorem EnvOk.extO {K : PySem.W.Frag} {O O' : List (Option Addr)} {H H' : Hp} {ρ : Rho} {σ : L2.St} (en : EnvOk K O H ρ σ) (e : Ext O.length O O' H) (c : Ch O H H') : EnvOk K O' H' ρ σ :=
  ⟨en.len, fun i r h => let ⟨v, h1, h2⟩ := en.slot i r h; ⟨v, h1, h2.extO e c⟩⟩
theorem Ext.low {n m : Nat} {O O' : List (Option Addr)} {H : Hp} (e : Ext n O O' H) (h : m ≤ n) : Ext m O O' H := ⟨fun i hi => e.pre i (by omega), e.sub⟩
theorem xao_nil : XAo X aNil [] := pa_weak pa_nil fun σ H Q ⟨ρ, O, cs, rs, cs', e, en, w, p⟩ => by
  cases e
  exact p [] O H .refl .refl w trivial
/-- an item that is data -/
def aDat (fa : ME) (fr : MA) : MA := fun ρ cs => (fa ρ cs).bind fun p => match deg p.1 with
  | .dat d => (fr ρ p.2).map fun q => (.dat d :: q.1, q.2)
  | _ => none
/-- an item that is a fresh list: an owned cell -/
def aOwn (fa : ME) (fr : MA) : MA := fun ρ cs => (fa ρ cs).bind fun p => match p.1 with
  | .fr c => (fr ρ (p.2 ++ [some c])).map fun q => (.own p.2.length :: q.1, q.2)
  | _ => none
theorem xao_dat {e : Expr} {es : List Expr} {fa : ME} {fr : MA} (ha : XE X fa e) (hr : XAo X fr es) (hs : starEach (e :: es) X.env = (false, eval e X.env) :: starEach es X.env := by rfl) : XAo X (aDat fa fr) (e :: es) :=
  pa_weak (pa_cons ha hr hs) fun σ H Q ⟨ρ, O, cs, rs, cs', e0, en, w, p⟩ => by
    obtain ⟨⟨x, cs1⟩, h1, e1⟩ := Option.bind_eq_some_iff.mp e0
    refine ⟨ρ, O, cs, x, cs1, h1, en, w, fun v1 H1 c1 w1 r1 => ?_⟩
    have rr := r1.deg
    dsimp only at e1
    split at e1
    · rename_i d hd'
      obtain ⟨⟨r, cs2⟩, h2, e2⟩ := Option.map_eq_some_iff.mp e1
      cases e2
      rw [hd'] at rr
      exact ⟨ρ, O, cs1, r, cs2, h2, en.ch c1, w1, fun vs O' H2 e2 c2 w2 r2 => p _ O' H2 (Ext.refl.trans w w1 c1 e2) (c1.trans c2) w2 ⟨rr.extO e2 c2, r2⟩⟩
    · cases e1
theorem xao_own {e : Expr} {es : List Expr} {fa : ME} {fr : MA} (ha : XE X fa e) (hr : XAo X fr es) (hs : starEach (e :: es) X.env = (false, eval e X.env) :: starEach es X.env := by rfl) : XAo X (aOwn fa fr) (e :: es) :=
  pa_weak (pa_cons ha hr hs) fun σ H Q ⟨ρ, O, cs, rs, cs', e0, en, w, p⟩ => by
    obtain ⟨⟨x, cs1⟩, h1, e1⟩ := Option.bind_eq_some_iff.mp e0
    refine ⟨ρ, O, cs, x, cs1, h1, en, w, fun v1 H1 c1 w1 r1 => ?_⟩
    cases x with
    | fr l =>
      obtain ⟨⟨r, cs2⟩, h2, e2⟩ := Option.map_eq_some_iff.mp e1
      cases e2
      obtain ⟨q, rfl, hq, w2⟩ := r1
      have ex : Ext O.length O (O ++ [some q]) H := ext_new (K := X.K) (Nat.le_refl _) hq
      refine ⟨ρ, O ++ [some q], cs1 ++ [some l], r, cs2, h2, en.extO ex c1, w2, fun vs O' H2 e2 c2 w3 r2 => ?_⟩
      have e2' : Ext O.length (O ++ [some q]) O' H1 := e2.low (by simp)
      refine p _ O' H2 (ex.trans w w2 c1 e2') (c1.ext ex c2) w3 ⟨⟨q, rfl, ?_⟩, r2⟩
      rw [e2.pre _ (by rw [w1.len]; simp), w1.len]
      simp
    | _ => cases e1
/-- a, b = x, y -/
def sParO (i j : Nat) (fa : MA) : MS := fun _ ρ cs => (fa ρ cs).bind fun p => match p.1 with
  | [r, t] => some (.nx ((ρ.set i (some r)).set j (some t)) p.2)
  | _ => none
def sPar3 (i j l : Nat) (fa : MA) : MS := fun _ ρ cs => (fa ρ cs).bind fun p => match p.1 with
  | [r, t, u] => some (.nx (((ρ.set i (some r)).set j (some t)).set l (some u)) p.2)
  | _ => none
theorem xs_parO {i j : Nat} {x y : Str} {a b : Expr} {fa : MA} {px py pt pos : Pos} {kt k2 pt2} (hc : X.calm = true) (hN : X.N.Nodup) (ha : XAo X fa [a, b]) (hi : X.N[i]? = some x := by rfl) (hj : X.N[j]? = some y := by rfl) (hij : i ≠ j := by decide)
    (hx : X.env.scope.names.lookup x = some .local := by rfl) (hy : X.env.scope.names.lookup y = some .local := by rfl)
    (hw : swappedStores [.Tuple [.Name x px, .Name y py] kt pt] (.Tuple [a, b] k2 pt2) X.env = pure (some [x, y]) := by rfl)
    (hs : swapsWithSole [.Tuple [.Name x px, .Name y py] kt pt] (.Tuple [a, b] k2 pt2) pos.line X.env = pure false := by rfl) :
    XS X (sParO i j fa) (.Assign [.Tuple [.Name x px, .Name y py] kt pt] (.Tuple [a, b] k2 pt2) pos) :=
  ps_weak (ps_par hc hN hi hj hij hx hy ha hw hs) fun D σ H ⟨n0, ρ, O, cs, out, e0, hn, en, w, p⟩ => by
    obtain ⟨⟨rs, cs1⟩, h1, h2⟩ := Option.bind_eq_some_iff.mp e0
    refine ⟨ρ, O, cs, rs, cs1, h1, en, w, fun vs O' H' e c w' ra => ?_⟩
    dsimp only at h2
    split at h2
    · rename_i _ d t
      cases h2
      match vs, ra with
      | [v, u], ra => exact ⟨v, u, rfl, p _ O' H' (e.low hn) c (((en.extO e c).set i ra.1).set j ra.2.1) w'⟩
      | [], ra => exact ra.elim
      | [_], ra => exact ra.2.elim
      | _ :: _ :: _ :: _, ra => exact ra.2.2.elim
    · cases h2
theorem xs_par3 {i j l : Nat} {x y z : Str} {a b c : Expr} {fa : MA} {px py pz pt pos : Pos} {kt k2 pt2} (hc : X.calm = true) (hN : X.N.Nodup) (ha : XAo X fa [a, b, c]) (hi : X.N[i]? = some x := by rfl) (hj : X.N[j]? = some y := by rfl) (hl : X.N[l]? = some z := by rfl)
    (hij : i ≠ j := by decide) (hil : i ≠ l := by decide) (hjl : j ≠ l := by decide) (hx : X.env.scope.names.lookup x = some .local := by rfl) (hy : X.env.scope.names.lookup y = some .local := by rfl) (hz : X.env.scope.names.lookup z = some .local := by rfl)
    (hw : swappedStores [.Tuple [.Name x px, .Name y py, .Name z pz] kt pt] (.Tuple [a, b, c] k2 pt2) X.env = pure (some [x, y, z]) := by rfl)
    (hs : swapsWithSole [.Tuple [.Name x px, .Name y py, .Name z pz] kt pt] (.Tuple [a, b, c] k2 pt2) pos.line X.env = pure false := by rfl) :
    XS X (sPar3 i j l fa) (.Assign [.Tuple [.Name x px, .Name y py, .Name z pz] kt pt] (.Tuple [a, b, c] k2 pt2) pos) :=
  ps_weak (ps_par3 hc hN hi hj hl hij hil hjl hx hy hz ha hw hs) fun D σ H ⟨n0, ρ, O, cs, out, e0, hn, en, w, p⟩ => by
    obtain ⟨⟨rs, cs1⟩, h1, h2⟩ := Option.bind_eq_some_iff.mp e0
    refine ⟨ρ, O, cs, rs, cs1, h1, en, w, fun vs O' H' e c w' ra => ?_⟩
    dsimp only at h2
    split at h2
    · cases h2
      match vs, ra with
      | [v, u, t], ra => exact ⟨v, u, t, rfl, p _ O' H' (e.low hn) c ((((en.extO e c).set i ra.1).set j ra.2.1).set l ra.2.2.1) w'⟩
      | [], ra => exact ra.elim
      | [_], ra => exact ra.2.elim
      | [_, _], ra => exact ra.2.2.elim
      | _ :: _ :: _ :: _ :: _, ra => exact ra.2.2.2.elim
    · cases h2
/-! ### all, any of a list -/
def fitB : D → Bool
  | .str x => decide (x.length ≤ sizeLine)
  | .list xs => decide (xs.length ≤ sizeLine)
  | .tuple xs => decide (xs.length ≤ sizeLine)
  | _ => true
theorem fitB_ok {d : D} (h : fitB d = true) : d.fits63 := by
  have key : ∀ {n : Nat}, n ≤ sizeLine → (n : Int) < 2 ^ 63 := fun {n} h => by rw [sizeLine_eq] at h; omega
  cases d with
  | str x => exact key (of_decide_eq_true h)
  | list x => exact key (of_decide_eq_true h)
  | tuple x => exact key (of_decide_eq_true h)
  | _ => trivial
def allOk (ds : List D) : Bool := PyData.plainAll ds && ds.all fitB
def rAllD (K : PySem.W.Frag) (g : List D → Bool) : List V → Hp → VK → Prop := fun xs H Q => ∃ (a : Addr) (vs : List V) (ds : List D), xs = [.ref a] ∧ SqL K H a vs ∧ RpAll K H vs ds ∧ allOk ds = true ∧ Q (.bl (g ds)) H
theorem call_allD (rm : Rm X) : CallR X (.builtin "all") (rAllD X.K fun ds => ds.all PyData.truthy) := by
  intro pins s σ H xs us Q I r h
  obtain ⟨a, vs, ds, rfl, hs, hr, ok, q⟩ := h
  obtain ⟨o1, o2⟩ := Bool.and_eq_true_iff.mp ok
  obtain ⟨its, rv, pl, hz⟩ := I.list hs
  rw [Vals.ref1 r]
  obtain ⟨as, rd⟩ := RpAll.reads I hr (noFs_plain o1) its rv
  exact PySem.W.all_list_data (vs := its.toArray) (I.ok.hd rm.calm) pl.isList (by simpa using rd) o1 (fun x hx => fitB_ok (List.all_eq_true.mp o2 x hx)) fun h' tk k => ⟨.bl _, H, I.kept k, rfl, q⟩
theorem call_anyD (rm : Rm X) : CallR X (.builtin "any") (rAllD X.K fun ds => ds.any PyData.truthy) := by
  intro pins s σ H xs us Q I r h
  obtain ⟨a, vs, ds, rfl, hs, hr, ok, q⟩ := h
  obtain ⟨o1, o2⟩ := Bool.and_eq_true_iff.mp ok
  obtain ⟨its, rv, pl, hz⟩ := I.list hs
  rw [Vals.ref1 r]
  obtain ⟨as, rd⟩ := RpAll.reads I hr (noFs_plain o1) its rv
  exact PySem.W.any_list_data (vs := its.toArray) (I.ok.hd rm.calm) pl.isList (by simpa using rd) o1 (fun x hx => fitB_ok (List.all_eq_true.mp o2 x hx)) fun h' tk k => ⟨.bl _, H, I.kept k, rfl, q⟩
def dAll : List D → Option Rv
  | [.list ds] => if allOk ds = true then some (db (ds.all PyData.truthy)) else none
  | _ => none
def dAny : List D → Option Rv
  | [.list ds] => if allOk ds = true then some (db (ds.any PyData.truthy)) else none
  | _ => none
theorem allCS {K : PySem.W.Frag} : CaS K (rAllD K fun ds => ds.all PyData.truthy) dAll := by
  intro O cs H vs ds z Q w hp g p
  match ds, g, hp with
  | [.list ds], g, hp =>
    obtain ⟨x, rfl, sx⟩ := Paired.one hp
    obtain ⟨hz, rfl⟩ := ite_some g
    obtain ⟨a, vs, rfl, q, r⟩ := sx.list
    exact ⟨a, vs, ds, rfl, q.sq, r.mono hd_le, hz, post_bool w p⟩
theorem anyCS {K : PySem.W.Frag} : CaS K (rAllD K fun ds => ds.any PyData.truthy) dAny := by
  intro O cs H vs ds z Q w hp g p
  match ds, g, hp with
  | [.list ds], g, hp =>
    obtain ⟨x, rfl, sx⟩ := Paired.one hp
    obtain ⟨hz, rfl⟩ := ite_some g
    obtain ⟨a, vs, rfl, q, r⟩ := sx.list
    exact ⟨a, vs, ds, rfl, q.sq, r.mono hd_le, hz, post_bool w p⟩
theorem xe_all {e : Expr} {fa : MA} {p pos : Pos} (rm : Rm X) (hg : Gl X "all") (hm : X.mg "all" = none) (ha : XA X fa [e]) (he : starEach [e] X.env = (false, eval e X.env) :: starEach [] X.env := by rfl) : XE X (mCall dAll fa) (.Call (.Name "all" p) [e] [] pos) :=
  xe_callB (call_allD rm) allCS hg hm (by decide +kernel) ha (he := he)
theorem xe_any {e : Expr} {fa : MA} {p pos : Pos} (rm : Rm X) (hg : Gl X "any") (hm : X.mg "any" = none) (ha : XA X fa [e]) (he : starEach [e] X.env = (false, eval e X.env) :: starEach [] X.env := by rfl) : XE X (mCall dAny fa) (.Call (.Name "any" p) [e] [] pos) :=
  xe_callB (call_anyD rm) anyCS hg hm (by decide +kernel) ha (he := he)
/-! ### max, min of a list of ints -/
def maxI : List Int → Int
  | [] => 0
  | [a] => a
  | a :: r => max a (maxI r)
def minI : List Int → Int
  | [] => 0
  | [a] => a
  | a :: r => min a (minI r)
theorem maxI_mem : ∀ {l : List Int}, l ≠ [] → maxI l ∈ l ∧ ∀ y ∈ l, y ≤ maxI l
  | [], h => absurd rfl h
  | [a], _ => ⟨by simp [maxI], by simp [maxI]⟩
  | a :: b :: r, _ => by
    obtain ⟨h1, h2⟩ := maxI_mem (l := b :: r) (by simp)
    show max a (maxI (b :: r)) ∈ _ ∧ ∀ y ∈ _, y ≤ max a (maxI (b :: r))
    refine ⟨?_, fun y hy => ?_⟩
    · rcases Int.le_total a (maxI (b :: r)) with h | h
      · rw [Int.max_eq_right h]; exact List.mem_cons_of_mem _ h1
      · rw [Int.max_eq_left h]; exact List.mem_cons_self ..
    · rcases List.mem_cons.mp hy with h | h
      · rw [h]; exact Int.le_max_left _ _
      · exact Int.le_trans (h2 y h) (Int.le_max_right _ _)
theorem minI_mem : ∀ {l : List Int}, l ≠ [] → minI l ∈ l ∧ ∀ y ∈ l, minI l ≤ y
  | [], h => absurd rfl h
  | [a], _ => ⟨by simp [minI], by simp [minI]⟩
  | a :: b :: r, _ => by
    obtain ⟨h1, h2⟩ := minI_mem (l := b :: r) (by simp)
    show min a (minI (b :: r)) ∈ _ ∧ ∀ y ∈ _, min a (minI (b :: r)) ≤ y
    refine ⟨?_, fun y hy => ?_⟩
    · rcases Int.le_total a (minI (b :: r)) with h | h
      · rw [Int.min_eq_left h]; exact List.mem_cons_self ..
      · rw [Int.min_eq_right h]; exact List.mem_cons_of_mem _ h1
    · rcases List.mem_cons.mp hy with h | h
      · rw [h]; exact Int.min_le_left _ _
      · exact Int.le_trans (Int.min_le_right _ _) (h2 y h)
def dMaxL : List D → Option Rv
  | [.list ds] => (intsD ds).bind fun is => if is ≠ [] then some (di (maxI is)) else none
  | _ => none
def dMinL : List D → Option Rv
  | [.list ds] => (intsD ds).bind fun is => if is ≠ [] then some (di (minI is)) else none
  | _ => none
theorem maxLCS {K : PySem.W.Frag} : CaS K (rMax K) dMaxL := by
  intro O cs H vs ds z Q w hp g p
  match ds, g, hp with
  | [.list ds], g, hp =>
    obtain ⟨x, rfl, sx⟩ := Paired.one hp
    obtain ⟨is, h1, g⟩ := Option.bind_eq_some_iff.mp g
    obtain ⟨hz, rfl⟩ := ite_some g
    obtain ⟨a, vs, rfl, q, r⟩ := sx.list
    have e := intsD_v r h1
    subst e
    obtain ⟨m1, m2⟩ := maxI_mem hz
    refine ⟨a, is, rfl, q.sq, List.length_pos_iff.mpr hz, fun m hm hle => ?_⟩
    have : m = maxI is := Int.le_antisymm (m2 m hm) (hle _ m1)
    rw [this]
    exact post_int w p
theorem minLCS {K : PySem.W.Frag} : CaS K (rMin K) dMinL := by
  intro O cs H vs ds z Q w hp g p
  match ds, g, hp with
  | [.list ds], g, hp =>
    obtain ⟨x, rfl, sx⟩ := Paired.one hp
    obtain ⟨is, h1, g⟩ := Option.bind_eq_some_iff.mp g
    obtain ⟨hz, rfl⟩ := ite_some g
    obtain ⟨a, vs, rfl, q, r⟩ := sx.list
    have e := intsD_v r h1
    subst e
    obtain ⟨m1, m2⟩ := minI_mem hz
    refine ⟨a, is, rfl, q.sq, List.length_pos_iff.mpr hz, fun m hm hle => ?_⟩
    have : m = minI is := Int.le_antisymm (hle _ m1) (m2 m hm)
    rw [this]
    exact post_int w p
theorem xe_maxL {e : Expr} {fa : MA} {p pos : Pos} (rm : Rm X) (hg : Gl X "max") (hm : X.mg "max" = none) (ha : XA X fa [e]) (he : starEach [e] X.env = (false, eval e X.env) :: starEach [] X.env := by rfl) : XE X (mCall dMaxL fa) (.Call (.Name "max" p) [e] [] pos) :=
  xe_callB (cr_max rm.calm) maxLCS hg hm (by decide +kernel) ha (he := he)
theorem xe_minL {e : Expr} {fa : MA} {p pos : Pos} (rm : Rm X) (hg : Gl X "min") (hm : X.mg "min" = none) (ha : XA X fa [e]) (he : starEach [e] X.env = (false, eval e X.env) :: starEach [] X.env := by rfl) : XE X (mCall dMinL fa) (.Call (.Name "min" p) [e] [] pos) :=
  xe_callB (cr_min rm.calm) minLCS hg hm (by decide +kernel) ha (he := he)
/-! ### list(range(..)) -/
theorem rg_rp {K : PySem.W.Frag} {H : Hp} (a b : Int) : RpAll K H (rgV a b) (rngD a (b - a).toNat) := by
  unfold rgV rngD
  induction (List.range (b - a).toNat) with
  | nil => exact .nil
  | cons n r ih => exact .cons (.int _) ih
def rgOkB (a b : Int) : Bool := decide (-(2 ^ 62) ≤ a) && decide (a < 2 ^ 62) && decide (-(2 ^ 62) ≤ b) && decide (b < 2 ^ 62) && decide ((b - a).toNat ≤ 2 ^ 24)
theorem rgOk_of {a b : Int} (h : rgOkB a b = true) : RgOk a b := by
  unfold rgOkB at h
  simp only [Bool.and_eq_true, decide_eq_true_eq] at h
  exact ⟨h.1.1.1.1, h.1.1.1.2, h.1.1.2, h.1.2, h.2⟩
def mLR1 (fa : ME) : ME := fun ρ cs => (fa ρ cs).bind fun p => (intOf p.1).bind fun n => if rgOkB 0 n = true then some (.fr (rngD 0 (n - 0).toNat), p.2) else none
def mLR2 (fa fb : ME) : ME := fun ρ cs => (fa ρ cs).bind fun p => (fb ρ p.2).bind fun q => (intOf p.1).bind fun a => (intOf q.1).bind fun b => if rgOkB a b = true then some (.fr (rngD a (b - a).toNat), q.2) else none
theorem xe_lr1 {a : Expr} {fa : ME} {p pos p2 pos2 : Pos} (rm : Rm X) (hg : Gl X "list") (hm : X.mg "list" = none) (hg2 : Gl X "range") (hm2 : X.mg "range" = none) (ha : XE X fa a) (na : starEach [a] X.env = (false, eval a X.env) :: starEach [] X.env := by rfl)
    (nb : starEach [.Call (.Name "range" p2) [a] [] pos2] X.env = (false, eval (.Call (.Name "range" p2) [a] [] pos2) X.env) :: starEach [] X.env := by rfl) : XE X (mLR1 fa) (.Call (.Name "list" p) [.Call (.Name "range" p2) [a] [] pos2] [] pos) :=
  pe_weak (pe_listRg rm.calm hg hm (prg_1 hg2 hm2 ha na) nb) fun σ H Q ⟨ρ, O, cs, z, cs', e, en, w, p⟩ => by
    obtain ⟨⟨x, cs1⟩, h1, e1⟩ := Option.bind_eq_some_iff.mp e
    obtain ⟨n, h2, e2⟩ := Option.bind_eq_some_iff.mp e1
    obtain ⟨ok, e3⟩ := ite_some e2
    cases e3
    obtain rfl : x = di n := intOf_some h2
    refine ⟨ρ, O, cs, _, cs1, h1, en, w, fun v1 H1 c1 w1 r1 => ?_⟩
    cases (show Rp X.K (DL.hd O H1) v1 (.int n) from r1)
    exact ⟨n, rfl, rgOk_of ok, post_list w1 (rg_rp 0 n) (p.step c1 w1)⟩
theorem xe_lr2 {a b : Expr} {fa fb : ME} {p pos p2 pos2 : Pos} (rm : Rm X) (hg : Gl X "list") (hm : X.mg "list" = none) (hg2 : Gl X "range") (hm2 : X.mg "range" = none) (ha : XE X fa a) (hb : XE X fb b) (na : starEach [a, b] X.env = (false, eval a X.env) :: starEach [b] X.env := by rfl)
    (nb : starEach [b] X.env = (false, eval b X.env) :: starEach [] X.env := by rfl) (hp : (backTo pos2 (starEach [b] X.env)).any (·.1) = false := by rfl)
    (nc : starEach [.Call (.Name "range" p2) [a, b] [] pos2] X.env = (false, eval (.Call (.Name "range" p2) [a, b] [] pos2) X.env) :: starEach [] X.env := by rfl) : XE X (mLR2 fa fb) (.Call (.Name "list" p) [.Call (.Name "range" p2) [a, b] [] pos2] [] pos) :=
  pe_weak (pe_listRg rm.calm hg hm (prg_2 hg2 hm2 ha hb na nb hp) nc) fun σ H Q ⟨ρ, O, cs, z, cs', e, en, w, p⟩ => by
    obtain ⟨⟨x, cs1⟩, h1, e1⟩ := Option.bind_eq_some_iff.mp e
    obtain ⟨⟨y, cs2⟩, h2, e2⟩ := Option.bind_eq_some_iff.mp e1
    obtain ⟨i, h3, e3⟩ := Option.bind_eq_some_iff.mp e2
    obtain ⟨j, h4, e4⟩ := Option.bind_eq_some_iff.mp e3
    obtain ⟨ok, e5⟩ := ite_some e4
    cases e5
    obtain rfl : x = di i := intOf_some h3
    obtain rfl : y = di j := intOf_some h4
    refine ⟨ρ, O, cs, _, cs1, h1, en, w, fun v1 H1 c1 w1 r1 => ?_⟩
    cases (show Rp X.K (DL.hd O H1) v1 (.int i) from r1)
    refine ⟨ρ, O, cs1, _, cs2, h2, en.ch c1, w1, fun v2 H2 c2 w2 r2 => ?_⟩
    cases (show Rp X.K (DL.hd O H2) v2 (.int j) from r2)
    exact ⟨i, j, rfl, rfl, rgOk_of ok, post_list w2 (rg_rp i j) (p.step (c1.trans c2) w2)⟩
end
end DL
namespace DL
open PySem PySem.Spec PyProof.Rows L2
/-! ### running mirrors: what holds behind -/
def wpo {α β : Type} (o : Option (α × β)) (Q : α → β → Prop) : Prop := match o with
  | some p => Q p.1 p.2
  | none => False
def wpd {α : Type} (o : Option α) (Q : α → Prop) : Prop := match o with
  | some x => Q x
  | none => False
section
variable {α β γ : Type}
@[simp] theorem wpo_some {a : α} {b : β} {Q : α → β → Prop} : wpo (some (a, b)) Q ↔ Q a b := Iff.rfl
@[simp] theorem wpo_none {Q : α → β → Prop} : wpo (none : Option (α × β)) Q ↔ False := Iff.rfl
@[simp] theorem wpd_some {a : α} {Q : α → Prop} : wpd (some a) Q ↔ Q a := Iff.rfl
@[simp] theorem wpd_none {Q : α → Prop} : wpd (none : Option α) Q ↔ False := Iff.rfl
theorem wpo_iff {o : Option (α × β)} {Q : α → β → Prop} : wpo o Q ↔ ∃ a b, o = some (a, b) ∧ Q a b := by
  cases o with
  | none => simp
  | some p =>
    obtain ⟨a, b⟩ := p
    exact ⟨fun h => ⟨a, b, rfl, h⟩, fun ⟨_, _, e, h⟩ => by cases e; exact h⟩
theorem wpd_iff {o : Option α} {Q : α → Prop} : wpd o Q ↔ ∃ a, o = some a ∧ Q a := by
  cases o <;> simp
theorem wpo_of {o : Option (α × β)} {a : α} {b : β} {Q : α → β → Prop} (h : o = some (a, b)) (q : Q a b) : wpo o Q := by rw [h]; exact q
theorem wpo_mono {o : Option (α × β)} {Q R : α → β → Prop} (h : wpo o Q) (i : ∀ a b, Q a b → R a b) : wpo o R := by
  cases o with
  | none => exact h
  | some p => exact i _ _ h
theorem wpd_mono {o : Option α} {Q R : α → Prop} (h : wpd o Q) (i : ∀ a, Q a → R a) : wpd o R := by
  cases o with
  | none => exact h
  | some p => exact i _ h
theorem wpo_bind {γ δ : Type} {o : Option (α × β)} {k : α × β → Option (γ × δ)} {Q : γ → δ → Prop} : wpo (o.bind k) Q ↔ wpo o fun a b => wpo (k (a, b)) Q := by cases o <;> rfl
theorem wpo_map {δ : Type} {o : Option (α × β)} {k : α × β → γ × δ} {Q : γ → δ → Prop} : wpo (o.map k) Q ↔ wpo o fun a b => Q (k (a, b)).1 (k (a, b)).2 := by cases o <;> rfl
theorem wpd_bindo {o : Option α} {k : α → Option (β × γ)} {Q : β → γ → Prop} : wpo (o.bind k) Q ↔ wpd o fun a => wpo (k a) Q := by cases o <;> rfl
theorem wpd_mapo {o : Option α} {k : α → β × γ} {Q : β → γ → Prop} : wpo (o.map k) Q ↔ wpd o fun a => Q (k a).1 (k a).2 := by cases o <;> rfl
theorem wpd_bind {o : Option α} {k : α → Option β} {Q : β → Prop} : wpd (o.bind k) Q ↔ wpd o fun a => wpd (k a) Q := by cases o <;> rfl
theorem wpd_map {o : Option α} {k : α → β} {Q : β → Prop} : wpd (o.map k) Q ↔ wpd o fun a => Q (k a) := by cases o <;> rfl
@[simp] theorem wpd_ite {c : Prop} [Decidable c] {o : Option α} {Q : α → Prop} : wpd (if c then o else none) Q ↔ c ∧ wpd o Q := by
  by_cases h : c <;> simp [h]
@[simp] theorem wpo_ite {c : Prop} [Decidable c] {o : Option (α × β)} {Q : α → β → Prop} : wpo (if c then o else none) Q ↔ c ∧ wpo o Q := by
  by_cases h : c <;> simp [h]
end
def Ev (f : ME) (ρ : Rho) (cs : Cs) (Q : Rv → Cs → Prop) : Prop := wpo (f ρ cs) Q
def Et (f : MT) (ρ : Rho) (cs : Cs) (Q : Bool → Cs → Prop) : Prop := wpo (f ρ cs) Q
def Ea (f : MA) (ρ : Rho) (cs : Cs) (Q : List Rv → Cs → Prop) : Prop := wpo (f ρ cs) Q
def Em (m : MF) (rs : List Rv) (cs : Cs) (Q : Rv → Cs → Prop) : Prop := wpo (m rs cs) Q
def Ei (f : MI) (ρ : Rho) (cs : Cs) (Q : List D → Cs → Prop) : Prop := wpo (f ρ cs) Q
def Eo (f : MO) (ρ : Rho) (cs : Cs) (Q : Option Int → Cs → Prop) : Prop := wpo (f ρ cs) Q
def Eg (g : MG) (d : D) (ρ : Rho) (Q : Rho → Prop) : Prop := wpd (g d ρ) Q
def Egs (g : MGs) (ds : List D) (ρ : Rho) (Q : Rho → Prop) : Prop := wpd (g ds ρ) Q
def Es (f : MS) (n0 : Nat) (ρ : Rho) (cs : Cs) (Q : Out → Prop) : Prop := wpd (f n0 ρ cs) Q
/-- read as data -/
def Rd1 (r : Rv) (cs : Cs) (Q : D → Prop) : Prop := wpd (rd (deg r) cs) Q
def O1 (g : D → Option Rv) (x : Rv) (cs : Cs) (Q : Rv → Cs → Prop) : Prop := Rd1 x cs fun d => wpd (g d) fun z => Q z cs
def O2 (g : D → D → Option Rv) (x y : Rv) (cs : Cs) (Q : Rv → Cs → Prop) : Prop := Rd1 x cs fun d => Rd1 y cs fun e => wpd (g d e) fun z => Q z cs
section
variable {ρ : Rho} {cs : Cs} {Q : Rv → Cs → Prop} {QD : D → Prop} {QT : Bool → Cs → Prop} {QA : List Rv → Cs → Prop} {QI : List D → Cs → Prop} {QO : Option Int → Cs → Prop} {QS : Out → Prop} {QR : Rho → Prop} {n0 : Nat} {fa fb fc : ME} {f g : MS} {m : MF}
@[simp] theorem rd1_dat {d : D} : Rd1 (.dat d) cs QD ↔ QD d := Iff.rfl
@[simp] theorem rd1_fr {d : List D} : Rd1 (.fr d) cs QD ↔ QD (.list d) := Iff.rfl
theorem rd1_own {k : Nat} {c : List D} (h : cs[k]? = some (some c)) : Rd1 (.own k) cs QD ↔ QD (.list c) := by
  unfold Rd1 deg rd
  simp only [h]
  rfl
@[simp] theorem o1_dat {g : D → Option Rv} {d : D} : O1 g (.dat d) cs Q ↔ wpd (g d) fun z => Q z cs := Iff.rfl
@[simp] theorem o1_fr {g : D → Option Rv} {d : List D} : O1 g (.fr d) cs Q ↔ wpd (g (.list d)) fun z => Q z cs := Iff.rfl
@[simp] theorem o2_dd {g : D → D → Option Rv} {d e : D} : O2 g (.dat d) (.dat e) cs Q ↔ wpd (g d e) fun z => Q z cs := Iff.rfl
@[simp] theorem o2_fd {g : D → D → Option Rv} {d : List D} {e : D} : O2 g (.fr d) (.dat e) cs Q ↔ wpd (g (.list d) e) fun z => Q z cs := Iff.rfl
@[simp] theorem o2_df {g : D → D → Option Rv} {d : D} {e : List D} : O2 g (.dat d) (.fr e) cs Q ↔ wpd (g d (.list e)) fun z => Q z cs := Iff.rfl
@[simp] theorem o2_ff {g : D → D → Option Rv} {d : List D} {e : List D} : O2 g (.fr d) (.fr e) cs Q ↔ wpd (g (.list d) (.list e)) fun z => Q z cs := Iff.rfl
theorem o2_od {g : D → D → Option Rv} {k : Nat} {c : List D} {e : D} (h : cs[k]? = some (some c)) : O2 g (.own k) (.dat e) cs Q ↔ wpd (g (.list c) e) fun z => Q z cs := by
  unfold O2
  rw [rd1_own h]
  exact Iff.rfl
theorem o2_do {g : D → D → Option Rv} {k : Nat} {c : List D} {e : D} (h : cs[k]? = some (some c)) : O2 g (.dat e) (.own k) cs Q ↔ wpd (g e (.list c)) fun z => Q z cs := by
  unfold O2
  rw [rd1_dat, rd1_own h]
@[simp] theorem ev_xVar {i : Nat} : Ev (xVar i) ρ cs Q ↔ wpd (ρ[i]?.join) fun r => Q r cs := wpd_mapo
@[simp] theorem ev_xC {d : D} : Ev (xC d) ρ cs Q ↔ Q (.dat d) cs := Iff.rfl
@[simp] theorem ev_mB {h : D → D → Option Rv} : Ev (mB h fa fb) ρ cs Q ↔ Ev fa ρ cs fun x cs1 => Ev fb ρ cs1 fun y cs2 => O2 h x y cs2 Q := by
  unfold Ev mB O2 Rd1
  rw [wpo_bind]
  refine iff_of_eq (congrArg _ (funext fun x => funext fun cs1 => propext ?_))
  rw [wpo_bind]
  refine iff_of_eq (congrArg _ (funext fun y => funext fun cs2 => propext ?_))
  rw [wpd_bindo]
  refine iff_of_eq (congrArg _ (funext fun d => propext ?_))
  rw [wpd_bindo]
  refine iff_of_eq (congrArg _ (funext fun e => propext ?_))
  rw [wpd_mapo]
@[simp] theorem ev_mU {h : D → Option Rv} : Ev (mU h fa) ρ cs Q ↔ Ev fa ρ cs fun x cs1 => O1 h x cs1 Q := by
  unfold Ev mU O1 Rd1
  rw [wpo_bind]
  refine iff_of_eq (congrArg _ (funext fun x => funext fun cs1 => propext ?_))
  rw [wpd_bindo]
  refine iff_of_eq (congrArg _ (funext fun d => propext ?_))
  rw [wpd_mapo]
@[simp] theorem ea_nil : Ea aNil ρ cs QA ↔ QA [] cs := Iff.rfl
@[simp] theorem ea_cons {fr : MA} : Ea (aCons fa fr) ρ cs QA ↔ Ev fa ρ cs fun x cs1 => Ea fr ρ cs1 fun rs cs2 => QA (deg x :: rs) cs2 := by
  unfold Ev Ea aCons
  rw [wpo_bind]
  refine iff_of_eq (congrArg _ (funext fun x => funext fun cs1 => propext ?_))
  rw [wpo_map]
@[simp] theorem deg_dat {d : D} : deg (.dat d) = .dat d := rfl
@[simp] theorem deg_own {k : Nat} : deg (.own k) = .own k := rfl
@[simp] theorem deg_fr {d : List D} : deg (.fr d) = .dat (.list d) := rfl
/-- all read as data -/
def RdA (rs : List Rv) (cs : Cs) (Q : List D → Prop) : Prop := wpd (rdAll rs cs) Q
@[simp] theorem rda_nil {Q : List D → Prop} : RdA [] cs Q ↔ Q [] := Iff.rfl
@[simp] theorem rda_cons {r : Rv} {rs : List Rv} {Q : List D → Prop} : RdA (r :: rs) cs Q ↔ wpd (rd r cs) fun d => RdA rs cs fun ds => Q (d :: ds) := by
  unfold RdA
  rw [show rdAll (r :: rs) cs = (rd r cs).bind fun d => (rdAll rs cs).map fun ds => d :: ds from rfl, wpd_bind]
  refine iff_of_eq (congrArg _ (funext fun d => propext ?_))
  rw [wpd_map]
@[simp] theorem rd_dat {d : D} : rd (.dat d) cs = some d := rfl
@[simp] theorem rd_fr {d : List D} : rd (.fr d) cs = some (.list d) := rfl
theorem rd_own {k : Nat} {c : List D} (h : cs[k]? = some (some c)) : rd (.own k) cs = some (.list c) := by
  unfold rd
  simp only [h]
@[simp] theorem ev_mCall {h : List D → Option Rv} {fr : MA} : Ev (mCall h fr) ρ cs Q ↔ Ea fr ρ cs fun rs cs1 => RdA rs cs1 fun ds => wpd (h ds) fun z => Q z cs1 := by
  unfold Ev Ea mCall RdA
  rw [wpo_bind]
  refine iff_of_eq (congrArg _ (funext fun x => funext fun cs1 => propext ?_))
  rw [wpd_bindo]
  refine iff_of_eq (congrArg _ (funext fun d => propext ?_))
  rw [wpd_mapo]
@[simp] theorem ev_mDisp {h : List D → Rv} {fr : MA} : Ev (mDisp h fr) ρ cs Q ↔ Ea fr ρ cs fun rs cs1 => wpd (datAll rs) fun ds => ds.length ≤ sizeLine ∧ Q (h ds) cs1 := by
  unfold Ev Ea mDisp
  rw [wpo_bind]
  refine iff_of_eq (congrArg _ (funext fun x => funext fun cs1 => propext ?_))
  rw [wpd_bindo]
  refine iff_of_eq (congrArg _ (funext fun d => propext ?_))
  rw [wpo_ite]
  exact Iff.rfl
@[simp] theorem ev_xLst {fr : MA} : Ev (xLst fr) ρ cs Q ↔ Ea fr ρ cs fun rs cs1 => wpd (datAll rs) fun ds => ds.length ≤ sizeLine ∧ Q (.fr ds) cs1 := ev_mDisp
@[simp] theorem ev_xTup {fr : MA} : Ev (xTup fr) ρ cs Q ↔ Ea fr ρ cs fun rs cs1 => wpd (datAll rs) fun ds => ds.length ≤ sizeLine ∧ Q (.dat (.tuple ds)) cs1 := ev_mDisp
@[simp] theorem datAll_nil : datAll [] = some [] := rfl
@[simp] theorem datAll_cons {d : D} {rs : List Rv} : datAll (.dat d :: rs) = (datAll rs).map fun ds => d :: ds := rfl
@[simp] theorem ev_mIf {c : MT} : Ev (mIf c fa fb) ρ cs Q ↔ Et c ρ cs fun b cs1 => if b = true then Ev fa ρ cs1 Q else Ev fb ρ cs1 Q := by
  unfold Ev Et mIf
  rw [wpo_bind]
  refine iff_of_eq (congrArg _ (funext fun b => funext fun cs1 => propext ?_))
  cases b <;> simp
def Tr1 (x : Rv) (cs : Cs) (Q : Bool → Prop) : Prop := Rd1 x cs fun d => wpd (truD d) Q
@[simp] theorem truD_none : truD .none = some false := rfl
@[simp] theorem truD_bool {b : Bool} : truD (.bool b) = some b := rfl
@[simp] theorem truD_int {i : Int} : truD (.int i) = some (i != 0) := rfl
@[simp] theorem truD_str {x : Str} : truD (.str x) = some ((x.length : Int) != 0) := rfl
@[simp] theorem truD_list {ds : List D} : truD (.list ds) = some (!ds.isEmpty) := rfl
@[simp] theorem truD_tuple {ds : List D} : truD (.tuple ds) = some (!ds.isEmpty) := rfl
@[simp] theorem tr1_bool {b : Bool} {Q : Bool → Prop} : Tr1 (.dat (.bool b)) cs Q ↔ Q b := Iff.rfl
@[simp] theorem tr1_dat {d : D} {Q : Bool → Prop} : Tr1 (.dat d) cs Q ↔ wpd (truD d) Q := Iff.rfl
@[simp] theorem tr1_fr {d : List D} {Q : Bool → Prop} : Tr1 (.fr d) cs Q ↔ Q (!d.isEmpty) := Iff.rfl
@[simp] theorem ev_mAnd : Ev (mAnd fa fb) ρ cs Q ↔ Ev fa ρ cs fun x cs1 => Tr1 x cs1 fun k => if k = true then Ev fb ρ cs1 Q else Q (deg x) cs1 := by
  unfold Ev mAnd Tr1 Rd1
  rw [wpo_bind]
  refine iff_of_eq (congrArg _ (funext fun x => funext fun cs1 => propext ?_))
  rw [wpd_bindo]
  refine iff_of_eq (congrArg _ (funext fun d => propext ?_))
  rw [wpd_bindo]
  refine iff_of_eq (congrArg _ (funext fun b => propext ?_))
  cases b <;> simp
@[simp] theorem ev_mOr : Ev (mOr fa fb) ρ cs Q ↔ Ev fa ρ cs fun x cs1 => Tr1 x cs1 fun k => if k = true then Q (deg x) cs1 else Ev fb ρ cs1 Q := by
  unfold Ev mOr Tr1 Rd1
  rw [wpo_bind]
  refine iff_of_eq (congrArg _ (funext fun x => funext fun cs1 => propext ?_))
  rw [wpd_bindo]
  refine iff_of_eq (congrArg _ (funext fun d => propext ?_))
  rw [wpd_bindo]
  refine iff_of_eq (congrArg _ (funext fun b => propext ?_))
  cases b <;> simp
@[simp] theorem ev_mCallF {n : Nat} {fr : MA} : Ev (mCallF n m fr) ρ cs Q ↔ Ea fr ρ cs fun rs cs1 => rs.length = n ∧ Em m rs cs1 Q := by
  unfold Ev Ea Em mCallF
  rw [wpo_bind]
  refine iff_of_eq (congrArg _ (funext fun x => funext fun cs1 => propext ?_))
  exact wpo_ite
@[simp] theorem ev_mCallK {n k q : Nat} {π : List Nat} {fr fk : MA} : Ev (mCallK n k q π m fr fk) ρ cs Q ↔ Ea fr ρ cs fun rs cs1 => Ea fk ρ cs1 fun ks cs2 => (rs.length = n ∧ ks.length = k ∧ (pick π (rs ++ ks)).length = q) ∧ Em m (pick π (rs ++ ks)) cs2 Q := by
  unfold Ev Ea Em mCallK
  rw [wpo_bind]
  refine iff_of_eq (congrArg _ (funext fun x => funext fun cs1 => propext ?_))
  rw [wpo_bind]
  refine iff_of_eq (congrArg _ (funext fun y => funext fun cs2 => propext ?_))
  exact wpo_ite
@[simp] theorem ev_mM1 {h : D → D → Option Rv} : Ev (mM1 h fa fb) ρ cs Q ↔ Ev fa ρ cs fun x cs1 => wpd (match x with | .dat (.str a) => some a | _ => none) fun a => Ev fb ρ cs1 fun y cs2 => O2 h (.dat (.str a)) y cs2 Q := by
  unfold Ev mM1
  rw [wpo_bind]
  refine iff_of_eq (congrArg _ (funext fun x => funext fun cs1 => propext ?_))
  have go : ∀ a : Str, (wpo ((fb ρ cs1).bind fun q => (rd (deg q.1) q.2).bind fun e => (h (.str a) e).map fun z => (z, q.2)) Q ↔ wpo (fb ρ cs1) fun y cs2 => O2 h (.dat (.str a)) y cs2 Q) := fun a => by
    rw [wpo_bind]
    refine iff_of_eq (congrArg _ (funext fun y => funext fun cs2 => propext ?_))
    unfold O2 Rd1
    rw [wpd_bindo]
    show _ ↔ wpd (some (PyData.str a)) _
    rw [wpd_some]
    refine iff_of_eq (congrArg _ (funext fun d => propext ?_))
    rw [wpd_mapo]
  cases x with
  | dat d =>
    cases d with
    | str a => exact go a
    | _ => exact Iff.rfl
  | _ => exact Iff.rfl
@[simp] theorem eo_none : Eo oNone ρ cs QO ↔ QO none cs := Iff.rfl
@[simp] theorem eo_some : Eo (oSome fa) ρ cs QO ↔ Ev fa ρ cs fun x cs1 => wpd (intOf x) fun i => QO (some i) cs1 := by
  unfold Eo Ev oSome
  rw [wpo_bind]
  refine iff_of_eq (congrArg _ (funext fun x => funext fun cs1 => propext ?_))
  rw [wpd_mapo]
@[simp] theorem intOf_dat {i : Int} : intOf (.dat (.int i)) = some i := rfl
@[simp] theorem ev_mSl {lo hi : MO} : Ev (mSl fa lo hi) ρ cs Q ↔ Ev fa ρ cs fun x cs1 => Eo lo ρ cs1 fun l cs2 => Eo hi ρ cs2 fun u cs3 => Rd1 x cs3 fun d => wpd (dSl d l u) fun z => Q z cs3 := by
  unfold Ev Eo Rd1 mSl
  rw [wpo_bind]
  refine iff_of_eq (congrArg _ (funext fun x => funext fun cs1 => propext ?_))
  rw [wpo_bind]
  refine iff_of_eq (congrArg _ (funext fun y => funext fun cs2 => propext ?_))
  rw [wpo_bind]
  refine iff_of_eq (congrArg _ (funext fun z => funext fun cs3 => propext ?_))
  rw [wpd_bindo]
  refine iff_of_eq (congrArg _ (funext fun d => propext ?_))
  rw [wpd_mapo]
@[simp] theorem ev_mChain {p q : Int → Int → Bool} : Ev (mChain p q fa fb fc) ρ cs Q ↔ Ev fa ρ cs fun x cs1 => Ev fb ρ cs1 fun y cs2 => wpd (intOf x) fun i => wpd (intOf y) fun j => if p i j = true then Ev fc ρ cs2 fun z cs3 => wpd (intOf z) fun k => Q (db (q j k)) cs3 else Q (db false) cs2 := by
  unfold Ev mChain
  rw [wpo_bind]
  refine iff_of_eq (congrArg _ (funext fun x => funext fun cs1 => propext ?_))
  rw [wpo_bind]
  refine iff_of_eq (congrArg _ (funext fun y => funext fun cs2 => propext ?_))
  rw [wpd_bindo]
  refine iff_of_eq (congrArg _ (funext fun i => propext ?_))
  rw [wpd_bindo]
  refine iff_of_eq (congrArg _ (funext fun j => propext ?_))
  by_cases h : p i j = true
  · rw [if_pos h, if_pos h, wpo_bind]
    refine iff_of_eq (congrArg _ (funext fun z => funext fun cs3 => propext ?_))
    rw [wpd_bindo]
    exact Iff.rfl
  · rw [if_neg h, if_neg h]
    exact Iff.rfl
@[simp] theorem et_mTB : Et (mTB fa) ρ cs QT ↔ Ev fa ρ cs fun x cs1 => wpd (match x with | .dat (.bool b) => some b | _ => none) fun b => QT b cs1 := by
  unfold Et Ev mTB
  rw [wpo_bind]
  refine iff_of_eq (congrArg _ (funext fun x => funext fun cs1 => propext ?_))
  cases x with
  | dat d => cases d <;> exact Iff.rfl
  | _ => exact Iff.rfl
@[simp] theorem et_mTNot {t : MT} : Et (mTNot t) ρ cs QT ↔ Et t ρ cs fun b cs1 => QT (!b) cs1 := wpo_map
@[simp] theorem et_mTAnd {t u : MT} : Et (mTAnd t u) ρ cs QT ↔ Et t ρ cs fun b cs1 => if b = true then Et u ρ cs1 QT else QT false cs1 := by
  unfold Et mTAnd
  rw [wpo_bind]
  refine iff_of_eq (congrArg _ (funext fun b => funext fun cs1 => propext ?_))
  cases b <;> simp
@[simp] theorem et_mTOr {t u : MT} : Et (mTOr t u) ρ cs QT ↔ Et t ρ cs fun b cs1 => if b = true then QT true cs1 else Et u ρ cs1 QT := by
  unfold Et mTOr
  rw [wpo_bind]
  refine iff_of_eq (congrArg _ (funext fun b => funext fun cs1 => propext ?_))
  cases b <;> simp
@[simp] theorem et_mTru : Et (mTru fa) ρ cs QT ↔ Ev fa ρ cs fun x cs1 => Tr1 x cs1 fun b => QT b cs1 := by
  unfold Et Ev mTru Tr1 Rd1
  rw [wpo_bind]
  refine iff_of_eq (congrArg _ (funext fun x => funext fun cs1 => propext ?_))
  rw [wpd_bindo]
  refine iff_of_eq (congrArg _ (funext fun d => propext ?_))
  rw [wpd_mapo]
@[simp] theorem et_mYes : Et mYes ρ cs QT ↔ QT true cs := Iff.rfl
@[simp] theorem eg_gNm {i : Nat} {d : D} : Eg (gNm i) d ρ QR ↔ QR (ρ.set i (some (.dat d))) := Iff.rfl
@[simp] theorem eg_gTp {n : Nat} {h : MGs} {ds : List D} : Eg (gTp n h) (.tuple ds) ρ QR ↔ ds.length = n ∧ Egs h ds ρ QR := wpd_ite
@[simp] theorem egs_nil : Egs gsNil [] ρ QR ↔ QR ρ := Iff.rfl
@[simp] theorem egs_cons {h : MG} {hs : MGs} {d : D} {ds : List D} : Egs (gsCons h hs) (d :: ds) ρ QR ↔ Eg h d ρ fun ρ1 => Egs hs ds ρ1 QR := wpd_bind
@[simp] theorem es_sNil : Es sNil n0 ρ cs QS ↔ QS (.nx ρ cs) := Iff.rfl
@[simp] theorem es_sBrk : Es sBrk n0 ρ cs QS ↔ QS (.bk ρ cs) := Iff.rfl
@[simp] theorem es_sCnt : Es sCnt n0 ρ cs QS ↔ QS (.ct ρ cs) := Iff.rfl
@[simp] theorem es_sNev : Es sNev n0 ρ cs QS ↔ False := Iff.rfl
@[simp] theorem es_sRetN : Es sRetN n0 ρ cs QS ↔ QS (.rt (.dat .none) cs) := Iff.rfl
/-- go on behind -/
def Nx (n0 : Nat) (g : MS) (Q : Out → Prop) : Out → Prop
  | .nx ρ cs => Es g n0 ρ cs Q
  | o => Q o
@[simp] theorem nx_nx : Nx n0 g QS (.nx ρ cs) ↔ Es g n0 ρ cs QS := Iff.rfl
@[simp] theorem nx_rt {r : Rv} : Nx n0 g QS (.rt r cs) ↔ QS (.rt r cs) := Iff.rfl
@[simp] theorem nx_bk : Nx n0 g QS (.bk ρ cs) ↔ QS (.bk ρ cs) := Iff.rfl
@[simp] theorem nx_ct : Nx n0 g QS (.ct ρ cs) ↔ QS (.ct ρ cs) := Iff.rfl
@[simp] theorem es_sSeq : Es (sSeq f g) n0 ρ cs QS ↔ Es f n0 ρ cs (Nx n0 g QS) := by
  unfold Es sSeq
  rw [wpd_bind]
  refine iff_of_eq (congrArg _ (funext fun o => propext ?_))
  cases o <;> exact Iff.rfl
theorem wpo_bindd {α β γ : Type} {o : Option (α × β)} {k : α × β → Option γ} {Q : γ → Prop} : wpd (o.bind k) Q ↔ wpo o fun a b => wpd (k (a, b)) Q := by cases o <;> rfl
theorem wpo_mapd {α β γ : Type} {o : Option (α × β)} {k : α × β → γ} {Q : γ → Prop} : wpd (o.map k) Q ↔ wpo o fun a b => Q (k (a, b)) := by cases o <;> rfl
@[simp] theorem es_sExpr : Es (sExpr fa) n0 ρ cs QS ↔ Ev fa ρ cs fun _ cs1 => QS (.nx ρ cs1) := wpo_mapd
def DatOf (r : Rv) (Q : D → Prop) : Prop := wpd (match deg r with | .dat d => some d | _ => none) Q
@[simp] theorem datOf_dat {d : D} : DatOf (.dat d) QD ↔ QD d := Iff.rfl
@[simp] theorem datOf_fr {d : List D} : DatOf (.fr d) QD ↔ QD (.list d) := Iff.rfl
@[simp] theorem es_sSet {i : Nat} : Es (sSet i fa) n0 ρ cs QS ↔ Ev fa ρ cs fun x cs1 => DatOf x fun d => QS (.nx (ρ.set i (some (.dat d))) cs1) := by
  unfold Es Ev sSet DatOf
  rw [wpo_bindd]
  refine iff_of_eq (congrArg _ (funext fun x => funext fun cs1 => propext ?_))
  cases x <;> exact Iff.rfl
@[simp] theorem es_sOwn {i : Nat} : Es (sOwn i fa) n0 ρ cs QS ↔ Ev fa ρ cs fun x cs1 => wpd (match x with | .fr c => some c | _ => none) fun c => QS (.nx (ρ.set i (some (.own cs1.length))) (cs1 ++ [some c])) := by
  unfold Es Ev sOwn
  rw [wpo_bindd]
  refine iff_of_eq (congrArg _ (funext fun x => funext fun cs1 => propext ?_))
  cases x <;> exact Iff.rfl
@[simp] theorem es_sIf {c : MT} : Es (sIf c f g) n0 ρ cs QS ↔ Et c ρ cs fun b cs1 => if b = true then Es f n0 ρ cs1 QS else Es g n0 ρ cs1 QS := by
  unfold Es Et sIf
  rw [wpo_bindd]
  refine iff_of_eq (congrArg _ (funext fun b => funext fun cs1 => propext ?_))
  cases b <;> simp
/-- what a return hands out -/
def Ret (n0 : Nat) (r : Rv) (cs : Cs) (Q : Out → Prop) : Prop := match r with
  | .dat d => Q (.rt (.dat d) cs)
  | .fr c => Q (.rt (.own cs.length) (cs ++ [some c]))
  | .own k => n0 ≤ k ∧ Q (.rt (.own k) cs)
  | .exn _ _ => False
@[simp] theorem ret_dat {d : D} : Ret n0 (.dat d) cs QS ↔ QS (.rt (.dat d) cs) := Iff.rfl
@[simp] theorem ret_fr {c : List D} : Ret n0 (.fr c) cs QS ↔ QS (.rt (.own cs.length) (cs ++ [some c])) := Iff.rfl
@[simp] theorem ret_own {k : Nat} : Ret n0 (.own k) cs QS ↔ n0 ≤ k ∧ QS (.rt (.own k) cs) := Iff.rfl
@[simp] theorem es_sRet : Es (sRet fa) n0 ρ cs QS ↔ Ev fa ρ cs fun x cs1 => Ret n0 x cs1 QS := by
  unfold Es Ev sRet
  rw [wpo_bindd]
  refine iff_of_eq (congrArg _ (funext fun x => funext fun cs1 => propext ?_))
  cases x with
  | own k => exact wpd_ite
  | _ => exact Iff.rfl
/-- a def's result from its body's -/
def Fin (n : Nat) (Q : Rv → Cs → Prop) : Out → Prop
  | .rt (.dat d) cs' => Q (.dat d) (cs'.take n)
  | .rt (.own k) cs' => n ≤ k ∧ wpd cs'[k]?.join fun c => Q (.fr c) (cs'.take n)
  | .nx _ cs' => Q (.dat .none) (cs'.take n)
  | _ => False
@[simp] theorem fin_dat {n : Nat} {d : D} : Fin n Q (.rt (.dat d) cs) ↔ Q (.dat d) (cs.take n) := Iff.rfl
@[simp] theorem fin_own {n k : Nat} : Fin n Q (.rt (.own k) cs) ↔ n ≤ k ∧ wpd cs[k]?.join fun c => Q (.fr c) (cs.take n) := Iff.rfl
@[simp] theorem fin_nx {n : Nat} : Fin n Q (.nx ρ cs) ↔ Q (.dat .none) (cs.take n) := Iff.rfl
theorem em_fnM {n : Nat} {b : MS} {rs : List Rv} : Em (fnM n b) rs cs Q ↔ Es b cs.length (rs.map some ++ List.replicate (n - rs.length) none) cs (Fin cs.length Q) := by
  unfold Em Es fnM
  rw [wpd_bindo]
  refine iff_of_eq (congrArg _ (funext fun o => propext ?_))
  cases o with
  | rt r cs' =>
    cases r with
    | dat d => exact Iff.rfl
    | fr c => exact Iff.rfl
    | exn nm d => exact Iff.rfl
    | own k =>
      show wpo (if cs.length ≤ k then _ else none) Q ↔ cs.length ≤ k ∧ wpd cs'[k]?.join _
      rw [wpo_ite]
      refine and_congr_right fun _ => ?_
      cases cs'[k]? with
      | none => exact Iff.rfl
      | some x => cases x <;> exact Iff.rfl
  | nx ρ cs' => exact Iff.rfl
  | bk _ _ => exact Iff.rfl
  | ct _ _ => exact Iff.rfl
theorem em_rec {n i : Nat} {b : MF → MS} {rs : List Rv} : Em (recM n b (i + 1)) rs cs Q ↔ Em (fnM n (b (recM n b i))) rs cs Q := Iff.rfl
@[simp] theorem es_sPut {x : Nat} : Es (sPut x fb fa) n0 ρ cs QS ↔ Ev fa ρ cs fun v cs1 => wpd (cellOf ρ[x]?) fun k => Ev fb ρ cs1 fun j cs2 => wpd (intOf j) fun i => DatOf v fun d => wpd cs2[k]?.join fun c => wpd (ixN c.length i) fun j => QS (.nx ρ (cs2.set k (some (c.set j d)))) := by
  unfold Es Ev sPut DatOf
  rw [wpo_bindd]
  refine iff_of_eq (congrArg _ (funext fun v => funext fun cs1 => propext ?_))
  rw [wpd_bind]
  refine iff_of_eq (congrArg _ (funext fun k => propext ?_))
  rw [wpo_bindd]
  refine iff_of_eq (congrArg _ (funext fun j => funext fun cs2 => propext ?_))
  rw [wpd_bind]
  refine iff_of_eq (congrArg _ (funext fun i => propext ?_))
  dsimp only
  cases deg v with
  | dat d =>
    cases cs2[k]? with
    | none => exact Iff.rfl
    | some c =>
      cases c with
      | none => exact Iff.rfl
      | some c => exact wpd_map
  | _ => exact Iff.rfl
@[simp] theorem cellOf_own {k : Nat} : cellOf (some (some (.own k))) = some k := rfl
@[simp] theorem es_sApp {x : Nat} : Es (sApp x fa) n0 ρ cs QS ↔ wpd (cellOf ρ[x]?) fun k => Ev fa ρ cs fun v cs1 => DatOf v fun d => wpd cs1[k]?.join fun c => c.length < sizeLine ∧ QS (.nx ρ (cs1.set k (some (c ++ [d])))) := by
  unfold Es Ev sApp DatOf
  rw [wpd_bind]
  refine iff_of_eq (congrArg _ (funext fun k => propext ?_))
  rw [wpo_bindd]
  refine iff_of_eq (congrArg _ (funext fun v => funext fun cs1 => propext ?_))
  dsimp only
  cases deg v with
  | dat d =>
    cases cs1[k]? with
    | none => exact Iff.rfl
    | some c =>
      cases c with
      | none => exact Iff.rfl
      | some c => exact wpd_ite
  | _ => exact Iff.rfl
@[simp] theorem es_sAsg {h : MG} : Es (sAsg fa h) n0 ρ cs QS ↔ Ev fa ρ cs fun x cs1 => DatOf x fun d => Eg h d ρ fun ρ1 => QS (.nx ρ1 cs1) := by
  unfold Es Ev sAsg DatOf Eg
  rw [wpo_bindd]
  refine iff_of_eq (congrArg _ (funext fun x => funext fun cs1 => propext ?_))
  cases x with
  | own k => exact Iff.rfl
  | exn nm d => exact Iff.rfl
  | _ => exact wpd_map
@[simp] theorem ei_iSeq : Ei (iSeq fa) ρ cs QI ↔ Ev fa ρ cs fun x cs1 => DatOf x fun d => wpd (itemsOf d) fun ds => QI ds cs1 := by
  unfold Ei Ev iSeq DatOf
  rw [wpo_bind]
  refine iff_of_eq (congrArg _ (funext fun x => funext fun cs1 => propext ?_))
  cases x with
  | own k => exact Iff.rfl
  | exn nm d => exact Iff.rfl
  | _ => exact wpd_mapo
@[simp] theorem itemsOf_list {ds : List D} : itemsOf (.list ds) = some ds := rfl
@[simp] theorem itemsOf_tuple {ds : List D} : itemsOf (.tuple ds) = some ds := rfl
@[simp] theorem itemsOf_str {x : Str} : itemsOf (.str x) = some (x.cps.toList.map fun c => .str ⟨#[c]⟩) := rfl
@[simp] theorem ei_rg1 {fr : MA} : Ei (iRg1 fr) ρ cs QI ↔ Ea fr ρ cs fun rs cs1 => wpd (match intsOf rs with | some [j] => some j | _ => none) fun j => sm62 j ∧ QI (rngD 0 j.toNat) cs1 := by
  unfold Ei Ea iRg1
  rw [wpo_bind]
  refine iff_of_eq (congrArg _ (funext fun x => funext fun cs1 => propext ?_))
  dsimp only
  generalize intsOf x = o
  match o with
  | none => exact Iff.rfl
  | some [] => exact Iff.rfl
  | some [j] => exact wpo_ite
  | some (_ :: _ :: _) => exact Iff.rfl
@[simp] theorem ei_rg2 {fr : MA} : Ei (iRg2 fr) ρ cs QI ↔ Ea fr ρ cs fun rs cs1 => wpd (match intsOf rs with | some [i, j] => some (i, j) | _ => none) fun p => (sm62 p.1 ∧ sm62 p.2) ∧ QI (rngD p.1 (p.2 - p.1).toNat) cs1 := by
  unfold Ei Ea iRg2
  rw [wpo_bind]
  refine iff_of_eq (congrArg _ (funext fun x => funext fun cs1 => propext ?_))
  dsimp only
  generalize intsOf x = o
  match o with
  | none => exact Iff.rfl
  | some [] => exact Iff.rfl
  | some [_] => exact Iff.rfl
  | some [i, j] => exact wpo_ite
  | some (_ :: _ :: _ :: _) => exact Iff.rfl
@[simp] theorem intsOf_nil : intsOf [] = some [] := rfl
@[simp] theorem intsOf_cons {i : Int} {rs : List Rv} : intsOf (.dat (.int i) :: rs) = (intsOf rs).map fun is => i :: is := rfl
def zipR (rs : List Rv) : Option (List D) := match rs with
  | [.dat (.list xs), .dat (.list ys)] => some (zipD xs ys)
  | [.dat (.tuple xs), .dat (.tuple ys)] => some (zipD xs ys)
  | _ => none
@[simp] theorem zipR_l {xs ys : List D} : zipR [.dat (.list xs), .dat (.list ys)] = some (zipD xs ys) := rfl
@[simp] theorem zipR_t {xs ys : List D} : zipR [.dat (.tuple xs), .dat (.tuple ys)] = some (zipD xs ys) := rfl
theorem iZp_eq {fr : MA} : iZp fr = fun ρ cs => (fr ρ cs).bind fun p => (zipR p.1).map fun ds => (ds, p.2) := by
  funext ρ cs
  unfold iZp
  refine congrArg _ (funext fun p => ?_)
  obtain ⟨rs, cs1⟩ := p
  unfold zipR
  dsimp only
  split
  · rfl
  · rfl
  · rename_i h1 h2
    first
      | rfl
      | (split
         · exact (h1 _ _ rfl).elim
         · exact (h2 _ _ rfl).elim
         · rfl)
@[simp] theorem ei_zip {fr : MA} : Ei (iZp fr) ρ cs QI ↔ Ea fr ρ cs fun rs cs1 => wpd (zipR rs) fun ds => QI ds cs1 := by
  unfold Ei Ea
  rw [iZp_eq, wpo_bind]
  refine iff_of_eq (congrArg _ (funext fun x => funext fun cs1 => propext ?_))
  exact wpd_mapo
@[simp] theorem ei_en {fr : MA} : Ei (iEn fr) ρ cs QI ↔ Ea fr ρ cs fun rs cs1 => wpd (match rs with | [r] => lstOf r | _ => none) fun ds => QI (enumD 0 ds) cs1 := by
  unfold Ei Ea iEn
  rw [wpo_bind]
  refine iff_of_eq (congrArg _ (funext fun x => funext fun cs1 => propext ?_))
  match x with
  | [] => exact Iff.rfl
  | [r] => exact wpd_mapo
  | _ :: _ :: _ => exact Iff.rfl
@[simp] theorem lstOf_dat {ds : List D} : lstOf (.dat (.list ds)) = some ds := rfl
@[simp] theorem ea_dat {fr : MA} : Ea (aDat fa fr) ρ cs QA ↔ Ev fa ρ cs fun x cs1 => DatOf x fun d => Ea fr ρ cs1 fun rs cs2 => QA (.dat d :: rs) cs2 := by
  unfold Ev Ea aDat DatOf
  rw [wpo_bind]
  refine iff_of_eq (congrArg _ (funext fun x => funext fun cs1 => propext ?_))
  cases x with
  | own k => exact Iff.rfl
  | exn nm d => exact Iff.rfl
  | _ => exact wpo_map
/-- a fresh list -/
def frOf (r : Rv) : Option (List D) := match r with
  | .fr c => some c
  | _ => none
@[simp] theorem frOf_fr {c : List D} : frOf (.fr c) = some c := rfl
@[simp] theorem ea_own {fr : MA} : Ea (aOwn fa fr) ρ cs QA ↔ Ev fa ρ cs fun x cs1 => wpd (frOf x) fun c => Ea fr ρ (cs1 ++ [some c]) fun rs cs2 => QA (.own cs1.length :: rs) cs2 := by
  unfold Ev Ea aOwn
  rw [wpo_bind]
  refine iff_of_eq (congrArg _ (funext fun x => funext fun cs1 => propext ?_))
  cases x with
  | fr c => exact wpo_map
  | _ => exact Iff.rfl
def two (rs : List Rv) : Option (Rv × Rv) := match rs with
  | [r, t] => some (r, t)
  | _ => none
@[simp] theorem two_ok {r t : Rv} : two [r, t] = some (r, t) := rfl
def three (rs : List Rv) : Option (Rv × Rv × Rv) := match rs with
  | [r, t, u] => some (r, t, u)
  | _ => none
@[simp] theorem three_ok {r t u : Rv} : three [r, t, u] = some (r, t, u) := rfl
@[simp] theorem es_sParO {i j : Nat} {fr : MA} : Es (sParO i j fr) n0 ρ cs QS ↔ Ea fr ρ cs fun rs cs1 => wpd (two rs) fun p => QS (.nx ((ρ.set i (some p.1)).set j (some p.2)) cs1) := by
  unfold Es Ea sParO
  rw [wpo_bindd]
  refine iff_of_eq (congrArg _ (funext fun x => funext fun cs1 => propext ?_))
  match x with
  | [] => exact Iff.rfl
  | [_] => exact Iff.rfl
  | [_, _] => exact Iff.rfl
  | _ :: _ :: _ :: _ => exact Iff.rfl
@[simp] theorem es_sPar3 {i j l : Nat} {fr : MA} : Es (sPar3 i j l fr) n0 ρ cs QS ↔ Ea fr ρ cs fun rs cs1 => wpd (three rs) fun p => QS (.nx (((ρ.set i (some p.1)).set j (some p.2.1)).set l (some p.2.2)) cs1) := by
  unfold Es Ea sPar3
  rw [wpo_bindd]
  refine iff_of_eq (congrArg _ (funext fun x => funext fun cs1 => propext ?_))
  match x with
  | [] => exact Iff.rfl
  | [_] => exact Iff.rfl
  | [_, _] => exact Iff.rfl
  | [_, _, _] => exact Iff.rfl
  | _ :: _ :: _ :: _ :: _ => exact Iff.rfl
@[simp] theorem ev_mLR1 : Ev (mLR1 fa) ρ cs Q ↔ Ev fa ρ cs fun x cs1 => wpd (intOf x) fun n => rgOkB 0 n = true ∧ Q (.fr (rngD 0 (n - 0).toNat)) cs1 := by
  unfold Ev mLR1
  rw [wpo_bind]
  refine iff_of_eq (congrArg _ (funext fun x => funext fun cs1 => propext ?_))
  rw [wpd_bindo]
  refine iff_of_eq (congrArg _ (funext fun n => propext ?_))
  exact wpo_ite
@[simp] theorem ev_mLR2 : Ev (mLR2 fa fb) ρ cs Q ↔ Ev fa ρ cs fun x cs1 => Ev fb ρ cs1 fun y cs2 => wpd (intOf x) fun a => wpd (intOf y) fun b => rgOkB a b = true ∧ Q (.fr (rngD a (b - a).toNat)) cs2 := by
  unfold Ev mLR2
  rw [wpo_bind]
  refine iff_of_eq (congrArg _ (funext fun x => funext fun cs1 => propext ?_))
  rw [wpo_bind]
  refine iff_of_eq (congrArg _ (funext fun y => funext fun cs2 => propext ?_))
  rw [wpd_bindo]
  refine iff_of_eq (congrArg _ (funext fun n => propext ?_))
  rw [wpd_bindo]
  refine iff_of_eq (congrArg _ (funext fun m => propext ?_))
  exact wpo_ite
/-! while: by a measure, I holds ahead of each test -/
theorem wh_rule {c : MT} {b : MS} (I : Rho → Cs → Prop) (μ : Rho → Cs → Nat) (hs : ∀ ρ cs, I ρ cs → Et c ρ cs fun k cs1 => if k = true then Es b n0 ρ cs1 fun o => match o with
    | .nx ρ2 cs2 => I ρ2 cs2 ∧ μ ρ2 cs2 < μ ρ cs
    | .ct ρ2 cs2 => I ρ2 cs2 ∧ μ ρ2 cs2 < μ ρ cs
    | .bk ρ2 cs2 => QS (.nx ρ2 cs2)
    | .rt r cs2 => QS (.rt r cs2) else QS (.nx ρ cs1)) : ∀ (n : Nat) (ρ : Rho) (cs : Cs), μ ρ cs < n → I ρ cs → wpd (wh c b n0 n ρ cs) QS
  | 0, _, _, h, _ => absurd h (Nat.not_lt_zero _)
  | n + 1, ρ, cs, h, hI => by
    rw [show wh c b n0 (n + 1) ρ cs = (c ρ cs).bind fun p => if p.1 = true then (b n0 ρ p.2).bind fun o => match o with
      | .nx ρ2 cs2 => wh c b n0 n ρ2 cs2
      | .ct ρ2 cs2 => wh c b n0 n ρ2 cs2
      | .bk ρ2 cs2 => some (.nx ρ2 cs2)
      | .rt r cs2 => some (.rt r cs2)
    else some (.nx ρ p.2) from rfl, wpo_bindd]
    refine wpo_mono (hs ρ cs hI) fun k cs1 hk => ?_
    cases k with
    | false => exact hk
    | true =>
      rw [if_pos rfl] at hk
      show wpd (if true = true then _ else _) QS
      rw [if_pos rfl, wpd_bind]
      refine wpd_mono hk fun o ho => ?_
      cases o with
      | nx ρ2 cs2 => exact wh_rule I μ hs n ρ2 cs2 (by have := ho.2; omega) ho.1
      | ct ρ2 cs2 => exact wh_rule I μ hs n ρ2 cs2 (by have := ho.2; omega) ho.1
      | bk ρ2 cs2 => exact ho
      | rt r cs2 => exact ho
theorem es_sWh {c : MT} {b : MS} (I : Rho → Cs → Prop) (μ : Rho → Cs → Nat) (h0 : I ρ cs) (hs : ∀ ρ cs, I ρ cs → Et c ρ cs fun k cs1 => if k = true then Es b n0 ρ cs1 fun o => match o with
    | .nx ρ2 cs2 => I ρ2 cs2 ∧ μ ρ2 cs2 < μ ρ cs
    | .ct ρ2 cs2 => I ρ2 cs2 ∧ μ ρ2 cs2 < μ ρ cs
    | .bk ρ2 cs2 => QS (.nx ρ2 cs2)
    | .rt r cs2 => QS (.rt r cs2) else QS (.nx ρ cs1)) : Es (sWh c b) n0 ρ cs QS := by
  obtain ⟨o, e, q⟩ := wpd_iff.mp (wh_rule I μ hs (μ ρ cs + 1) ρ cs (Nat.lt_succ_self _) h0)
  exact wpd_iff.mpr ⟨o, sWh_of e, q⟩
/-! loops -/
def El (h : MG) (b : MS) (n0 : Nat) (ds : List D) (ρ : Rho) (cs : Cs) (Q : Out → Prop) : Prop := wpd (loopM h b n0 ds ρ cs) Q
@[simp] theorem es_sFor {i : MI} {h : MG} {b : MS} : Es (sFor i h b) n0 ρ cs QS ↔ Ei i ρ cs fun ds cs1 => El h b n0 ds ρ cs1 QS := wpo_bindd
@[simp] theorem el_nil {h : MG} {b : MS} : El h b n0 [] ρ cs QS ↔ QS (.nx ρ cs) := Iff.rfl
def Lp (h : MG) (b : MS) (n0 : Nat) (ds : List D) (Q : Out → Prop) : Out → Prop
  | .nx ρ cs => El h b n0 ds ρ cs Q
  | .ct ρ cs => El h b n0 ds ρ cs Q
  | .bk ρ cs => Q (.nx ρ cs)
  | .rt r cs => Q (.rt r cs)
theorem el_cons {h : MG} {b : MS} {d : D} {ds : List D} : El h b n0 (d :: ds) ρ cs QS ↔ Eg h d ρ fun ρ1 => Es b n0 ρ1 cs (Lp h b n0 ds QS) := by
  unfold El Eg Es
  rw [show loopM h b n0 (d :: ds) ρ cs = (h d ρ).bind fun ρ1 => (b n0 ρ1 cs).bind fun o => match o with
    | .nx ρ2 cs2 => loopM h b n0 ds ρ2 cs2
    | .ct ρ2 cs2 => loopM h b n0 ds ρ2 cs2
    | .bk ρ2 cs2 => some (.nx ρ2 cs2)
    | .rt r cs2 => some (.rt r cs2) from rfl, wpd_bind]
  refine iff_of_eq (congrArg _ (funext fun ρ1 => propext ?_))
  rw [wpd_bind]
  refine iff_of_eq (congrArg _ (funext fun o => propext ?_))
  cases o <;> exact Iff.rfl
theorem el_inv {h : MG} {b : MS} (I : Nat → Rho → Cs → Prop) : ∀ {ds : List D} {k : Nat} {ρ : Rho} {cs : Cs}, I k ρ cs → (∀ (i : Nat) (d : D) (ρ : Rho) (cs : Cs), ds[i]? = some d → I (k + i) ρ cs → Eg h d ρ fun ρ1 => Es b n0 ρ1 cs fun o => match o with
    | .nx ρ2 cs2 => I (k + i + 1) ρ2 cs2
    | .ct ρ2 cs2 => I (k + i + 1) ρ2 cs2
    | .bk ρ2 cs2 => QS (.nx ρ2 cs2)
    | .rt r cs2 => QS (.rt r cs2)) → (∀ ρ cs, I (k + ds.length) ρ cs → QS (.nx ρ cs)) → El h b n0 ds ρ cs QS
  | [], k, ρ, cs, h0, _, h2 => h2 ρ cs h0
  | d :: ds, k, ρ, cs, h0, h1, h2 => by
    rw [el_cons]
    refine wpd_mono (h1 0 d ρ cs rfl h0) fun ρ1 e1 => wpd_mono e1 fun o e2 => ?_
    have go : ∀ ρ2 cs2, I (k + 1) ρ2 cs2 → El h b n0 ds ρ2 cs2 QS := fun ρ2 cs2 i2 => el_inv I (k := k + 1) i2 (fun i d' ρ cs hi hI => by
      have := h1 (i + 1) d' ρ cs (by simpa using hi) (by rw [show k + (i + 1) = k + 1 + i by omega]; exact hI)
      rw [show k + (i + 1) = k + 1 + i by omega] at this
      exact this) fun ρ cs hI => h2 ρ cs (by rw [List.length_cons, show k + (ds.length + 1) = k + 1 + ds.length by omega]; exact hI)
    cases o with
    | nx ρ2 cs2 => exact go ρ2 cs2 e2
    | ct ρ2 cs2 => exact go ρ2 cs2 e2
    | bk ρ2 cs2 => exact e2
    | rt r cs2 => exact e2
/-! comprehensions -/
def Ec (h : MG) (t : MT) (f : ME) (ds : List D) (ρ : Rho) (cs : Cs) (acc : List D) (Q : List D → Cs → Prop) : Prop := wpo (compM h t f ds ρ cs acc) Q
@[simp] theorem ev_xComp {i : MI} {h : MG} {t : MT} {vs : List Nat} : Ev (xComp i h t fa vs) ρ cs Q ↔ Ei i ρ cs fun ds cs1 => Ec h t fa ds (wipeR ρ vs) cs1 [] fun l cs2 => Q (.fr l) cs2 := by
  unfold Ev Ei Ec xComp
  rw [wpo_bind]
  refine iff_of_eq (congrArg _ (funext fun x => funext fun cs1 => propext ?_))
  exact wpo_map
@[simp] theorem ec_nil {h : MG} {t : MT} {acc : List D} {Q : List D → Cs → Prop} : Ec h t fa [] ρ cs acc Q ↔ Q acc cs := Iff.rfl
/-- one turn of a comprehension, the new list's cell last -/
theorem ec_cons {h : MG} {t : MT} {d : D} {ds acc : List D} {Q : List D → Cs → Prop} (e : Eg h d ρ fun ρ1 => Et t ρ1 (cs ++ [some acc]) fun b cs2 => if b = true then Ev fa ρ1 cs2 fun r cs3 => DatOf r fun x => ∃ cs4 c, cs3 = cs4 ++ [some c] ∧ cs4.length = cs.length ∧ c.length < sizeLine ∧ Ec h t fa ds ρ cs4 (c ++ [x]) Q
    else ∃ cs4 c, cs2 = cs4 ++ [some c] ∧ cs4.length = cs.length ∧ Ec h t fa ds ρ cs4 c Q) : Ec h t fa (d :: ds) ρ cs acc Q := by
  unfold Ec
  rw [show compM h t fa (d :: ds) ρ cs acc = (h d ρ).bind fun ρ1 => (t ρ1 (cs ++ [some acc])).bind fun p => if p.1 = true then (fa ρ1 p.2).bind fun q => match deg q.1, q.2[cs.length]? with
      | .dat e, some (some c) => if c.length < sizeLine then compM h t fa ds ρ (q.2.take cs.length) (c ++ [e]) else none
      | _, _ => none
    else match p.2[cs.length]? with
      | some (some c) => compM h t fa ds ρ (p.2.take cs.length) c
      | _ => none from rfl, wpd_bindo]
  refine wpd_mono e fun ρ1 e1 => ?_
  rw [wpo_bind]
  refine wpo_mono e1 fun b cs2 e2 => ?_
  cases b with
  | true =>
    rw [if_pos rfl] at e2
    show wpo (if true = true then _ else _) _
    rw [if_pos rfl, wpo_bind]
    refine wpo_mono e2 fun r cs3 e3 => ?_
    obtain ⟨x, ex, cs4, c, rfl, hl, hz, e4⟩ := wpd_iff.mp e3
    have er : deg r = .dat x := by
      cases q : deg r with
      | dat d => rw [q] at ex; exact congrArg Rv.dat (Option.some.inj ex)
      | own k => rw [q] at ex; cases ex
      | fr c => rw [q] at ex; cases ex
      | exn nm d => rw [q] at ex; cases ex
    have e5 : (cs4 ++ [some c])[cs.length]? = some (some c) := by rw [← hl]; simp
    have e6 : (cs4 ++ [some c]).take cs.length = cs4 := by rw [← hl]; simp
    dsimp only
    rw [er, e5]
    dsimp only
    rw [if_pos hz, e6]
    exact e4
  | false =>
    have e2' : ∃ cs4 c, cs2 = cs4 ++ [some c] ∧ cs4.length = cs.length ∧ Ec h t fa ds ρ cs4 c Q := e2
    obtain ⟨cs4, c, rfl, hl, e4⟩ := e2'
    have e5 : (cs4 ++ [some c])[cs.length]? = some (some c) := by rw [← hl]; simp
    have e6 : (cs4 ++ [some c]).take cs.length = cs4 := by rw [← hl]; simp
    dsimp only
    rw [if_neg (by decide), e5]
    dsimp only
    rw [e6]
    exact e4
/-- a comprehension that changes no cell: filter and map -/
theorem ec_pure {h : MG} {t : MT} (P : D → Bool) (F : D → D) {Q : List D → Cs → Prop} : ∀ {ds acc : List D}, (∀ d ∈ ds, ∀ cs', Eg h d ρ fun ρ1 => Et t ρ1 cs' fun b cs2 => b = P d ∧ cs2 = cs' ∧ (P d = true → Ev fa ρ1 cs' fun r cs3 => cs3 = cs' ∧ DatOf r fun x => x = F d)) → acc.length + ds.length ≤ sizeLine → Q (acc ++ (ds.filter P).map F) cs → Ec h t fa ds ρ cs acc Q
  | [], acc, _, _, q => by simpa using q
  | d :: ds, acc, hd, hz, q => by
    refine ec_cons (wpd_mono (hd d (List.mem_cons_self ..) (cs ++ [some acc])) fun ρ1 e1 => wpo_mono e1 fun b cs2 e2 => ?_)
    obtain ⟨rfl, rfl, e3⟩ := e2
    rw [List.length_cons] at hz
    have hd' := fun d' h' => hd d' (List.mem_cons_of_mem _ h')
    by_cases hp : P d = true
    · rw [if_pos hp]
      refine wpo_mono (e3 hp) fun r cs3 e4 => ?_
      obtain ⟨rfl, e5⟩ := e4
      refine wpd_mono e5 fun x ex => ?_
      subst ex
      refine ⟨cs, acc, rfl, rfl, by omega, ec_pure P F hd' (by rw [List.length_append]; simp; omega) ?_⟩
      rw [List.filter_cons_of_pos hp, List.map_cons] at q
      rw [List.append_assoc]
      exact q
    · rw [if_neg hp]
      refine ⟨cs, acc, rfl, rfl, ec_pure P F hd' (by omega) ?_⟩
      rw [List.filter_cons_of_neg hp] at q
      exact q
/-- a comprehension by an invariant: I turn, the list so far, the cells without it -/
theorem ec_inv {h : MG} {t : MT} (I : Nat → List D → Cs → Prop) {Q : List D → Cs → Prop} : ∀ {ds : List D} {k : Nat} {acc : List D} {cs : Cs}, I k acc cs → (∀ (i : Nat) (d : D) (acc : List D) (cs : Cs), ds[i]? = some d → I (k + i) acc cs → Eg h d ρ fun ρ1 => Et t ρ1 (cs ++ [some acc]) fun b cs2 => if b = true then Ev fa ρ1 cs2 fun r cs3 => DatOf r fun x => ∃ cs4 c, cs3 = cs4 ++ [some c] ∧ cs4.length = cs.length ∧ c.length < sizeLine ∧ I (k + i + 1) (c ++ [x]) cs4
    else ∃ cs4 c, cs2 = cs4 ++ [some c] ∧ cs4.length = cs.length ∧ I (k + i + 1) c cs4) → (∀ acc cs, I (k + ds.length) acc cs → Q acc cs) → Ec h t fa ds ρ cs acc Q
  | [], k, acc, cs, h0, _, h2 => h2 acc cs h0
  | d :: ds, k, acc, cs, h0, h1, h2 => by
    have go : ∀ c cs4, I (k + 1) c cs4 → Ec h t fa ds ρ cs4 c Q := fun c cs4 i2 => ec_inv I (k := k + 1) i2 (fun i d' acc cs hi hI => by
      have := h1 (i + 1) d' acc cs (by simpa using hi) (by rw [show k + (i + 1) = k + 1 + i by omega]; exact hI)
      rw [show k + (i + 1) = k + 1 + i by omega] at this
      exact this) fun acc cs hI => h2 acc cs (by rw [List.length_cons, show k + (ds.length + 1) = k + 1 + ds.length by omega]; exact hI)
    refine ec_cons (wpd_mono (h1 0 d acc cs rfl h0) fun ρ1 e1 => wpo_mono e1 fun b cs2 e2 => ?_)
    by_cases hb : b = true
    · rw [if_pos hb] at e2 ⊢
      refine wpo_mono e2 fun r cs3 e3 => wpd_mono e3 fun x e4 => ?_
      obtain ⟨cs4, c, a1, a2, a3, a4⟩ := e4
      exact ⟨cs4, c, a1, a2, a3, go _ _ a4⟩
    · rw [if_neg hb] at e2 ⊢
      obtain ⟨cs4, c, a1, a2, a4⟩ := e2
      exact ⟨cs4, c, a1, a2, go _ _ a4⟩
end
end DL
/-! EX3: what is asked of a caught exception: isinstance, its value. -/
namespace DL
open PySem PySem.Spec PyProof.Rows L2
section
variable {X : Cx}
/-- the module's class nm, at C -/
structure ClsOf (K : PySem.W.Frag) (mg : Str → Option Value) (nm : Str) (C : Addr) : Prop where
  g : mg nm = some (.ref C)
  mem : (nm, C) ∈ CLs K
  no : ∀ T ∈ (["NoneType", "bool", "int", "str", "list", "tuple", "dict", "function"] : List String), PySem.W.kitOne K (.type T) (.ref C) = some false
theorem ClsOf.nod {K : PySem.W.Frag} {mg : Str → Option Value} {nm : Str} {C : Addr} (h : ClsOf K mg nm C) (d : D) : PySem.W.kitOne K (.type (tyN d)) (.ref C) = some false := by
  refine h.no _ ?_
  cases d with
  | dict kvs =>
    show (if isFn kvs = true then "function" else "dict") ∈ _
    split <;> simp
  | _ => simp [tyN]
/-- isinstance(e, nm), nm a class of the module -/
def mIsX (nm : Str) (fa : ME) : ME := fun ρ cs => (fa ρ cs).bind fun p => match p.1 with
  | .exn n _ => some (db (subN n nm), p.2)
  | r => (rd (deg r) p.2).map fun _ => (db false, p.2)
theorem call_isX : CallR X (.builtin "isinstance") (fun xs H Q => rIsF X.K xs H Q ∨ rIsK X.K xs H Q) := by
  intro pins s σ H xs us Q I r h
  rcases h with h | h
  · exact call_isF pins s σ H xs us Q I r h
  · exact call_isK pins s σ H xs us Q I r h
theorem xe_isX {C : Addr} {e : Expr} {x : Str} {f : ME} {p pt pos : Pos} (hg : Gl X "isinstance") (hm : X.mg "isinstance" = none) (hx : Gl X x) (hc : ClsOf X.K X.mg x C) (he : XE X f e) (hd : (x == ("__debug__" : Str)) = false := by decide)
    (h1 : starEach [e, .Name x pt] X.env = (false, eval e X.env) :: starEach [.Name x pt] X.env := by rfl) (hpl : (backTo pos (starEach [.Name x pt] X.env)).any (·.1) = false := by rfl) :
    XE X (mIsX x f) (.Call (.Name "isinstance" p) [e, .Name x pt] [] pos) :=
  pe_weak (pe_callB call_isX hg hm (by decide +kernel) (pa_cons he (pa_cons (pe_glob hx hc.g (v := .ref C) rfl hd) pa_nil) h1) (he := h1) (hpl := hpl)) fun σ H Q ⟨ρ, O, cs, z, cs', e0, en, w, p⟩ => by
    obtain ⟨⟨r, cs1⟩, g1, g3⟩ := Option.bind_eq_some_iff.mp e0
    refine ⟨ρ, O, cs, r, cs1, g1, en, w, fun v1 H1 c1 w1 r1 => ?_⟩
    cases r with
    | exn n d =>
      cases g3
      obtain ⟨a, C', dd, y, rfl, k, q1, q2, q3⟩ := r1
      exact .inr ⟨a, C', dd, _, .ref C, .ref C, _, rfl, k.ke, hd_le _ _ q1, hd_le _ _ q2, fun u ru => ru, k.sub _ hc.mem, post_bool w1 (p.step c1 w1)⟩
    | dat d =>
      obtain ⟨d', g4, g5⟩ := Option.map_eq_some_iff.mp (show (rd (deg (.dat d)) cs1).map (fun _ => (db false, cs1)) = some (z, cs') from g3)
      cases g5
      exact .inl ⟨v1, .ref C, _, _, false, rfl, .own C, tyX_of (r1.deg.sh w1 g4), hc.nod _, post_bool w1 (p.step c1 w1)⟩
    | own k =>
      obtain ⟨d', g4, g5⟩ := Option.map_eq_some_iff.mp (show (rd (deg (.own k)) cs1).map (fun _ => (db false, cs1)) = some (z, cs') from g3)
      cases g5
      exact .inl ⟨v1, .ref C, _, _, false, rfl, .own C, tyX_of (r1.deg.sh w1 g4), hc.nod _, post_bool w1 (p.step c1 w1)⟩
    | fr c =>
      obtain ⟨d', g4, g5⟩ := Option.map_eq_some_iff.mp (show (rd (deg (.fr c)) cs1).map (fun _ => (db false, cs1)) = some (z, cs') from g3)
      cases g5
      exact .inl ⟨v1, .ref C, _, _, false, rfl, .own C, tyX_of (r1.deg.sh w1 g4), hc.nod _, post_bool w1 (p.step c1 w1)⟩
/-- e.value -/
def mVal (fa : ME) : ME := fun ρ cs => (fa ρ cs).bind fun p => match p.1 with
  | .exn _ d => some (.dat d, p.2)
  | _ => none
theorem xe_val {e : Expr} {f : ME} {pos : Pos} (he : XE X f e) (hb : attributeBase e "value" X.env (eval e X.env) = eval e X.env := by rfl) : XE X (mVal f) (.Attribute e "value" pos) :=
  pe_weak (pe_xk (f := "value") he hb) fun σ H Q ⟨ρ, O, cs, z, cs', e0, en, w, p⟩ => by
    obtain ⟨⟨r, cs1⟩, g1, g3⟩ := Option.bind_eq_some_iff.mp e0
    refine ⟨ρ, O, cs, r, cs1, g1, en, w, fun v1 H1 c1 w1 r1 => ?_⟩
    cases r with
    | exn n d =>
      cases g3
      obtain ⟨a, C', dd, y, rfl, k, q1, q2, q3⟩ := r1
      exact ⟨a, C', dd, _, y, rfl, k.ke, k.nov, hd_le _ _ q1, hd_le _ _ q2, by simp [List.lookup], p y H1 c1 w1 q3⟩
    | _ => cases g3
/-- x is None, x is not None: x anything -/
def rIsN (f : Bool → Bool) : R2 := fun x y H Q => y = .non ∧ Q (.bl (f (decide (x = .non)))) H
theorem op_isN : OpR X (compareOp .Is) (rIsN id) := by
  intro pins s σ H x y v u Q I rx ry h
  obtain ⟨rfl, q⟩ := h
  cases (show u = .none from ry)
  exact is_none_gen ⟨.bl _, H, I, by rw [rx.none_iff]; rfl, q⟩
theorem op_isnN : OpR X (compareOp .IsNot) (rIsN not) := by
  intro pins s σ H x y v u Q I rx ry h
  obtain ⟨rfl, q⟩ := h
  cases (show u = .none from ry)
  exact isnot_none_gen ⟨.bl _, H, I, by rw [rx.none_iff]; rfl, q⟩
def mIsN (f : Bool → Bool) (fa : ME) : ME := fun ρ cs => (fa ρ cs).bind fun p => match p.1 with
  | .exn _ _ => some (db (f false), p.2)
  | r => (rd (deg r) p.2).map fun d => (db (f (isNonD d)), p.2)
theorem non_of {K : PySem.W.Frag} {O : List (Option Addr)} {H : Hp} {v : V} {d : D} (h : Sh K O H v d) : decide (v = .non) = isNonD d := by
  cases d with
  | none => cases h.none; rfl
  | bool b => cases h.bool; rfl
  | int i => cases h.int; rfl
  | str x => obtain ⟨rfl, _⟩ := h.str; rfl
  | list ds => obtain ⟨a, vs, rfl, _⟩ := h.list; rfl
  | tuple ds => obtain ⟨a, vs, rfl, _⟩ := h.tuple; rfl
  | dict ds =>
    by_cases hf : isFn ds = true
    · rcases h with h | ⟨a, vs, ds', rfl, e, h1, h2⟩
      · cases h with
        | dct q e r => rfl
        | fn q => rfl
      · cases e
    · obtain ⟨a, vs, rfl, _⟩ := h.dict (by simpa using hf)
      rfl
theorem isN_of {f : Bool → Bool} {fa : ME} {σ : L2.St} {H : Hp} {Q : VK} (h : tX X.K (mIsN f fa) σ H Q) : tX X.K fa σ H fun x H1 => rIsN f x .non H1 Q := by
  obtain ⟨ρ, O, cs, z, cs', e0, en, w, p⟩ := h
  obtain ⟨⟨r, cs1⟩, g1, g3⟩ := Option.bind_eq_some_iff.mp e0
  refine ⟨ρ, O, cs, r, cs1, g1, en, w, fun v1 H1 c1 w1 r1 => ⟨rfl, ?_⟩⟩
  cases r with
  | exn n d =>
    cases g3
    obtain ⟨a, C', dd, y, rfl, _⟩ := r1
    exact post_bool w1 (p.step c1 w1)
  | dat d =>
    obtain ⟨d', g4, g5⟩ := Option.map_eq_some_iff.mp (show (rd (deg (.dat d)) cs1).map _ = some (z, cs') from g3)
    cases g5
    rw [non_of (r1.deg.sh w1 g4)]
    exact post_bool w1 (p.step c1 w1)
  | own k =>
    obtain ⟨d', g4, g5⟩ := Option.map_eq_some_iff.mp (show (rd (deg (.own k)) cs1).map _ = some (z, cs') from g3)
    cases g5
    rw [non_of (r1.deg.sh w1 g4)]
    exact post_bool w1 (p.step c1 w1)
  | fr c =>
    obtain ⟨d', g4, g5⟩ := Option.map_eq_some_iff.mp (show (rd (deg (.fr c)) cs1).map _ = some (z, cs') from g3)
    cases g5
    rw [non_of (r1.deg.sh w1 g4)]
    exact post_bool w1 (p.step c1 w1)
theorem xe_isN {a : Expr} {fa : ME} {j : Nat} {pos pos' : Pos} (ha : XE X fa a) : XE X (mIsN id fa) (.Compare a [.Is] [.Constant .none j pos'] pos) :=
  pe_weak (pe_cmpR op_isN ha pe_non (by rfl)) fun σ H Q h => isN_of h
theorem xe_isnN {a : Expr} {fa : ME} {j : Nat} {pos pos' : Pos} (ha : XE X fa a) : XE X (mIsN not fa) (.Compare a [.IsNot] [.Constant .none j pos'] pos) :=
  pe_weak (pe_cmpR op_isnN ha pe_non (by rfl)) fun σ H Q h => isN_of h
theorem xt_isN {a : Expr} {fa : ME} {j : Nat} {pos pos' : Pos} (ha : XE X fa a) : XT X (mTB (mIsN id fa)) (.Compare a [.Is] [.Constant .none j pos'] pos) :=
  pt_weak (pt_cmpR op_isN ha pe_non (by rfl)) (tTest_of fun σ H Q h => isN_of h)
theorem xt_isnN {a : Expr} {fa : ME} {j : Nat} {pos pos' : Pos} (ha : XE X fa a) : XT X (mTB (mIsN not fa)) (.Compare a [.IsNot] [.Constant .none j pos'] pos) :=
  pt_weak (pt_cmpR op_isnN ha pe_non (by rfl)) (tTest_of fun σ H Q h => isN_of h)
/-- a module's constant that is data: at every heap -/
structure GVal (K : PySem.W.Frag) (mg : Str → Option Value) (x : Str) (d : D) : Prop where
  at_ : ∃ a : Addr, mg x = some (.ref a) ∧ ∀ H, Rp K H (.ref a) d
theorem xe_gval {x : Str} {d : D} {pos : Pos} (hg : Gl X x) (g : GVal X.K X.mg x d) (hd : (x == ("__debug__" : Str)) = false := by decide) : XE X (xC d) (.Name x pos) := by
  obtain ⟨a, h1, h2⟩ := g.at_
  refine pe_weak (pe_glob hg h1 (v := .ref a) rfl hd) fun σ H Q ⟨ρ, O, cs, r', cs', e, en, w, p⟩ => ?_
  cases e
  exact p (.ref a) H .refl w (h2 _)
end
end DL
/-! EX4: bodies that may raise: a layer over the plain statements. -/
namespace DL
open PySem PySem.Spec PyProof.Rows L2
/-- how a raising body ends: an exception (its class's name, its value), or as plain ones -/
inductive XOu where
  | ex (nm : Str) (d : D) (ρ : Rho) (cs : Cs)
  | out (o : Out)
abbrev MX := Nat → Rho → Cs → Option XOu
/-- an exception in the air: of class cls, its dict d -/
def ExF (K : PySem.W.Frag) (H : Hp) (nm : Str) (d : D) (cls : Value) (dd : Option Addr) : Prop := ∃ (C a : Addr) (y : V), cls = .ref C ∧ dd = some a ∧ Card K nm C ∧ H a = some (.xd [(("value" : Str), y)]) ∧ Rp K H y d
def PostX' (K : PySem.W.Frag) (n0 : Nat) (O : List (Option Addr)) (H : Hp) (x : XOu) (W : WX) (D : Ends) : Prop :=
  match x with
  | .ex nm d ρ' cs' => ∀ cls dd σ' O' H', Ext n0 O O' H → Ch O H H' → EnvOk K O' H' ρ' σ' → Wd K O' cs' H' → ExF K (hd O' H') nm d cls dd → W cls dd σ' H'
  | .out o => PostS K n0 O H o D
def tSX (K : PySem.W.Frag) (f : MX) (W : WX) : TS := fun D σ H => ∃ n0 ρ O cs x, f n0 ρ cs = some x ∧ n0 ≤ O.length ∧ EnvOk K O H ρ σ ∧ Wd K O cs H ∧ PostX' K n0 O H x W D
def XSX (X : Cx) (f : MX) (b : List Stmt) : Prop := ∀ W, Takes X W → PSs X b (tSX X.K f W)
section
variable {X : Cx}
/-- plain statements at the end -/
def xTail (g : MS) : MX := fun n0 ρ cs => (g n0 ρ cs).map .out
theorem xsx_tail {g : MS} {b : List Stmt} (h : XSs X.nox g b) : XSX X (xTail g) b := fun W tk => by
  have h' : PSs X b (tS X.K g) := PSs.nox h
  refine pss_weak h' fun D σ H ⟨n0, ρ, O, cs, x, e0, hn, en, w, p⟩ => ?_
  obtain ⟨o, e1, rfl⟩ := Option.map_eq_some_iff.mp e0
  exact ⟨n0, ρ, O, cs, o, e1, hn, en, w, p⟩
theorem PostX'.step {K : PySem.W.Frag} {n0 : Nat} {O O1 : List (Option Addr)} {H H1 : Hp} {x : XOu} {W : WX} {D : Ends} {cs cs1 : Cs} (h : PostX' K n0 O H x W D) (w : Wd K O cs H) (w1 : Wd K O1 cs1 H1) (e : Ext n0 O O1 H) (c : Ch O H H1) : PostX' K n0 O1 H1 x W D := by
  cases x with
  | ex nm d ρ' cs' => exact fun cls dd σ' O' H' e' c' en' w' => h cls dd σ' O' H' (e.trans w w1 c e') (c.ext e c') en' w'
  | out o => exact PostS.step (show PostS K n0 O H o D from h) w w1 e c
/-- a plain statement, then the rest -/
def xSeq (f : MS) (g : MX) : MX := fun n0 ρ cs => (f n0 ρ cs).bind fun o => match o with
  | .nx ρ1 cs1 => g n0 ρ1 cs1
  | o => some (.out o)
theorem ps_nox {st : Stmt} {t : TS} (h : PS X.nox st t) : PS X st t := ⟨fun pins s σ H D I hw =>
  wpAny_mono (h.run pins s σ H D (I.wish _) hw) (fun _ _ q => q.unwish) fun _ _ z => False.elim z⟩
theorem xsx_cons {st : Stmt} {rest : List Stmt} {f : MS} {g : MX} (h1 : XS X.nox f st) (h2 : XSX X g rest) : XSX X (xSeq f g) (st :: rest) := fun W tk => by
  have h1' : PS X st (tS X.K f) := ps_nox h1
  refine pss_weak (pss_cons h1' (h2 W tk)) fun D σ H ⟨n0, ρ, O, cs, x, e0, hn, en, w, p⟩ => ?_
  obtain ⟨o, e1, e2⟩ := Option.bind_eq_some_iff.mp e0
  refine ⟨n0, ρ, O, cs, o, e1, hn, en, w, ?_⟩
  cases o with
  | nx ρ1 cs1 =>
    intro σ1 O1 H1 ex1 c1 en1 w1
    exact ⟨n0, ρ1, O1, cs1, x, e2, ex1.len hn, en1, w1, p.step w w1 ex1 c1⟩
  | rt r cs1 =>
    cases e2
    exact p
  | bk ρ1 cs1 =>
    cases e2
    exact p
  | ct ρ1 cs1 =>
    cases e2
    exact p
/-- a statement that may raise -/
def X1 (X : Cx) (f : MX) (st : Stmt) : Prop := ∀ W, Takes X W → PS X st (tSX X.K f W)
def xOut (f : MS) : MX := fun n0 ρ cs => (f n0 ρ cs).map .out
theorem x1_plain {st : Stmt} {f : MS} (h : XS X.nox f st) : X1 X (xOut f) st := fun W tk => by
  have h' : PS X st (tS X.K f) := ps_nox h
  refine ps_weak h' fun D σ H ⟨n0, ρ, O, cs, x, e0, hn, en, w, p⟩ => ?_
  obtain ⟨o, e1, rfl⟩ := Option.map_eq_some_iff.mp e0
  exact ⟨n0, ρ, O, cs, o, e1, hn, en, w, p⟩
def xSq (f g : MX) : MX := fun n0 ρ cs => (f n0 ρ cs).bind fun x => match x with
  | .out (.nx ρ1 cs1) => g n0 ρ1 cs1
  | x => some x
theorem xsx_sq {st : Stmt} {rest : List Stmt} {f g : MX} (h1 : X1 X f st) (h2 : XSX X g rest) : XSX X (xSq f g) (st :: rest) := fun W tk => by
  refine pss_weak (pss_cons (h1 W tk) (h2 W tk)) fun D σ H ⟨n0, ρ, O, cs, x, e0, hn, en, w, p⟩ => ?_
  obtain ⟨y, e1, e2⟩ := Option.bind_eq_some_iff.mp e0
  refine ⟨n0, ρ, O, cs, y, e1, hn, en, w, ?_⟩
  cases y with
  | ex nm d ρ1 cs1 =>
    cases e2
    exact p
  | out o =>
    cases o with
    | nx ρ1 cs1 =>
      intro σ1 O1 H1 ex1 c1 en1 w1
      exact ⟨n0, ρ1, O1, cs1, x, e2, ex1.len hn, en1, w1, p.step w w1 ex1 c1⟩
    | rt r cs1 =>
      cases e2
      exact p
    | bk ρ1 cs1 =>
      cases e2
      exact p
    | ct ρ1 cs1 =>
      cases e2
      exact p
theorem xsx_one {st : Stmt} {f : MX} (h1 : X1 X f st) : XSX X f [st] := fun W tk => pss_one (h1 W tk)
def xNil : MX := fun _ ρ cs => some (.out (.nx ρ cs))
theorem xsx_nil : XSX X xNil [] := fun W tk => pss_weak pss_nil fun D σ H ⟨n0, ρ, O, cs, out, e, hn, en, w, p⟩ => by
  cases e
  exact p σ O H .refl .refl en w
def xIf (c : MT) (f g : MX) : MX := fun n0 ρ cs => (c ρ cs).bind fun p => if p.1 = true then f n0 ρ p.2 else g n0 ρ p.2
theorem x1_if {c : Expr} {a b : List Stmt} {t : MT} {f g : MX} {pos : Pos} (hc : XT X.nox t c) (ha : XSX X f a) (hb : XSX X g b) : X1 X (xIf t f g) (.If c a b pos) := fun W tk => by
  have hc' : PT X c (tXT X.K t) := PT.nox hc
  refine ps_weak (ps_if hc' (ha W tk) (hb W tk)) fun D σ H ⟨n0, ρ, O, cs, x, e0, hn, en, w, p⟩ => ?_
  obtain ⟨⟨k, cs1⟩, h1, h2⟩ := Option.bind_eq_some_iff.mp e0
  refine ⟨ρ, O, cs, k, cs1, h1, en, w, fun H' c' w' => ?_⟩
  have p' := p.step w w' .refl c'
  cases k with
  | true => exact ⟨n0, ρ, O, cs1, x, h2, hn, en.ch c', w', p'⟩
  | false => exact ⟨n0, ρ, O, cs1, x, h2, hn, en.ch c', w', p'⟩
/-- raise nm(e) -/
def xRaise (nm : Str) (fe : ME) : MX := fun _ ρ cs => (fe ρ cs).bind fun p => match deg p.1 with
  | .dat d => some (.ex nm d ρ p.2)
  | _ => none
/-- the class nm, which may be raised, at C -/
structure RaC (P : Program) (K : PySem.W.Frag) (mg : Str → Option Value) (nm : Str) : Prop where
  ex : ∃ (C D fI : Addr) (qual : Str), SEX.SeTxt P K qual D fI ∧ SEX.SeCls K D fI C ∧ mg nm = some (.ref C) ∧ mg "super" = none ∧ Card K nm C
theorem x1_raise {nm : Str} {a : Expr} {fe : ME} {p pos pos2 : Pos} {k : Nat} (R : RaC X.prog X.K X.mg nm) (hc : X.calm = true) (hr : Room k X.A) (ha : XE X.nox fe a) (hg : Gl X nm)
    (hdb : (nm == ("__debug__" : Str)) = false := by decide) (he : starEach (a :: []) X.env = (false, eval a X.env) :: starEach [] X.env := by rfl) (hpl : (backTo pos (starEach [] X.env)).any (·.1) = false := by rfl) :
    X1 X (xRaise nm fe) (.Raise (some (.Call (.Name nm p) [a] [] pos)) none pos2) := fun W tk => by
  obtain ⟨C, D, fI, qual, T, TC, gC, hms, cd⟩ := R.ex
  have ha' : PE X a (tX X.K fe) := PE.nox ha
  refine ps_weak (ps_raise hc tk (pmk_se T TC gC hms hr (pa_cons ha' pa_nil he) hg hdb he hpl)) fun D' σ H ⟨n0, ρ, O, cs, x, e0, hn, en, w, p⟩ => ?_
  obtain ⟨⟨r, cs1⟩, h1, h2⟩ := Option.bind_eq_some_iff.mp e0
  refine ⟨ρ, O, cs, r, cs1, h1, en, w, fun v1 H1 c1 w1 r1 => ⟨v1, rfl, fun d hd => ?_⟩⟩
  have rr := r1.deg
  dsimp only at h2
  split at h2
  · rename_i y hy
    cases h2
    rw [hy] at rr
    have c2 : Ch O H1 (upd H1 d (.xd [(("value" : Str), v1)])) := ch_new hd
    exact p (.ref C) (some d) σ O _ .refl (c1.trans c2) (en.ch (c1.trans c2)) (w1.new hd) ⟨C, d, v1, rfl, rfl, cd, hd_of (w1.fresh hd) upd_same, Rp.mono c2.data rr⟩
  · cases h2
end
/-! ### defs that may raise -/
/-- what a call of such a def gives -/
inductive RX where
  | ex (nm : Str) (d : D) (cs : Cs)
  | ok (r : Rv) (cs : Cs)
abbrev MFX := List Rv → Cs → Option RX
def finM (n : Nat) (o : Out) : Option (Rv × Cs) := match o with
  | .rt (.dat d) cs' => some (.dat d, cs'.take n)
  | .rt (.own k) cs' => if n ≤ k then (match cs'[k]? with
    | some (some c) => some (.fr c, cs'.take n)
    | _ => none) else none
  | .nx _ cs' => some (.dat .none, cs'.take n)
  | _ => none
def finX (n : Nat) (x : XOu) : Option RX := match x with
  | .ex nm d _ cs' => some (.ex nm d (cs'.take n))
  | .out o => (finM n o).map fun p => .ok p.1 p.2
def fnX (n : Nat) (b : MX) : MFX := fun rs cs => (b cs.length (rs.map some ++ List.replicate (n - rs.length) none) cs).bind (finX cs.length)
theorem ExF.mono {K : PySem.W.Frag} {H H' : Hp} (h : ∀ a o, H a = some o → H' a = some o) {nm : Str} {d : D} {cls : Value} {dd : Option Addr} (q : ExF K H nm d cls dd) : ExF K H' nm d cls dd :=
  let ⟨C, a, y, e1, e2, k, h1, r⟩ := q
  ⟨C, a, y, e1, e2, k, h _ _ h1, r.mono h⟩
/-- what the caller is told -/
def PostR (K : PySem.W.Frag) (O : List (Option Addr)) (H : Hp) (x : RX) (Q : VK) (E : L2.XK) : Prop := match x with
  | .ex nm d cs' => ∀ cls dd H', Ch O H H' → Wd K O cs' H' → ExF K (hd O H') nm d cls dd → E cls dd H'
  | .ok r cs' => PostX K O H r cs' Q
theorem post_fin {K : PySem.W.Frag} {O : List (Option Addr)} {cs cs' : Cs} {H : Hp} {o : Out} {r : Rv} {Q : VK} (wd : Wd K O cs H) (h2 : finM cs.length o = some (r, cs')) (p : PostX K O H r cs' Q) : PostS K cs.length O H o { nx := fun _ H' => Q .non H', rt := Q } := by
  cases o with
  | rt r0 cs1 =>
    intro v O' H' ex c w' ar'
    cases r0 with
    | dat d =>
      cases h2
      obtain ⟨a1, a2⟩ := body_end (r := .dat d) wd ex c w' ar' (.inl ⟨d, rfl, rfl⟩)
      exact p v H' c a1 a2
    | own j =>
      have h3 : (if cs.length ≤ j then (match cs1[j]? with
        | some (some c) => some (Rv.fr c, cs1.take cs.length)
        | _ => none) else none) = some (r, cs') := h2
      by_cases hj : cs.length ≤ j
      · rw [if_pos hj] at h3
        split at h3
        · rename_i l hl'
          cases h3
          obtain ⟨a1, a2⟩ := body_end (r := .fr l) wd ex c w' ar' (.inr ⟨j, l, rfl, hj, hl', rfl⟩)
          exact p v H' c a1 a2
        · cases h3
      · rw [if_neg hj] at h3; cases h3
    | fr l => cases h2
    | exn nm d => cases h2
  | nx ρ1 cs1 =>
    cases h2
    intro σ' O' H' ex c en' w'
    obtain ⟨a1, a2⟩ := body_end (r0 := .dat .none) (r := .dat .none) (v := .non) wd ex c w' .non (.inl ⟨_, rfl, rfl⟩)
    exact p .non H' c a1 a2
  | bk _ _ => cases h2
  | ct _ _ => cases h2
theorem post_finX {K : PySem.W.Frag} {O : List (Option Addr)} {cs : Cs} {H : Hp} {y : XOu} {x : RX} {Q : VK} {E : L2.XK} (wd : Wd K O cs H) (h2 : finX cs.length y = some x) (p : PostR K O H x Q E) : PostX' K cs.length O H y (fun cls d _ H => E cls d H) { nx := fun _ H' => Q .non H', rt := Q } := by
  cases y with
  | out o =>
    obtain ⟨q, h3, rfl⟩ := Option.map_eq_some_iff.mp h2
    exact post_fin wd h3 p
  | ex nm d ρ' cs1 =>
    cases h2
    intro cls dd σ' O' H' ex c en' w' hx
    have eO : O'.take cs.length = O := ex.take_eq wd.len
    have w2 := w'.take cs.length
    rw [eO] at w2
    exact p cls dd H' c w2 (hx.mono fun a o q => by
      obtain ⟨m, e⟩ := hd_some q
      exact hd_of (fun z => m (live_take (n := cs.length) (by rw [eO]; exact z))) e)
section
end
/-- the def at f does as m says, an exception told to the caller -/
structure FnX (P : Program) (w : World) (K : PySem.W.Frag) (mg : Str → Option Value) (base : Heap) (k : Nat) (f : Addr) (fd : FuncData) (ps : List Str) (m : MFX) : Prop where
  run : ∀ (A : Around) (outer : List Env) (s : Shared) (H : Hp) (args : Args) (us : List Value) (vs : List V) (Q : VK) (E : L2.XK) (rs : List Rv) (O : List (Option Addr)) (cs : Cs) (x : RX),
    A.guards = some [] → base.NoDigits → Room k A → Env0 P w K mg base A outer s H → BindsTo s fd args (ps.zip us) → Vals vs us → vs.length = ps.length → Wd K O cs H → ArRs K O H rs vs → m rs cs = some x → PostR K O H x Q E →
    codeAny (model P w) A (.call (.ref f) args) (CR (L2.CX P w) outer P w H s Q E) s
abbrev cxX (P : Program) (w : World) (K : PySem.W.Frag) (mg : Str → Option Value) (base : Heap) (N : List Str) (qual : Str) (scope : Scope) (f : Addr) (cdv : Value) (A : Around) (outer : List Env) (s : Shared) (H : Hp) (E : L2.XK) : Cx :=
  cxOf (L2.CX P w) P w K mg base N qual scope f cdv A outer s H E
theorem fnX_of {P : Program} {w : World} {K : PySem.W.Frag} {mg : Str → Option Value} {base : Heap} {k : Nat} {f : Addr} {x qual : Str} {params : Arguments} {body : List Stmt} {scope : Scope} {dvs : List V} {kws : List (Str × V)} {fd : FuncData} {N ps : List Str} {b : MX}
    (F : FunD K x qual params body scope dvs kws f fd) (S : FnScope N ps scope)
    (hb : ∀ (cdv : Value) (A : Around) (outer : List Env) (s : Shared) (H : Hp) (E : L2.XK), Room k (A.deeper (envOfC qual scope s.heap.objs.size f cdv)) → Rm (cxX P w K mg base N qual scope f cdv A outer s H E).nox → (cxX P w K mg base N qual scope f cdv A outer s H E).calm = true → XSX (cxX P w K mg base N qual scope f cdv A outer s H E) b body) :
    FnX P w K mg base (k + 1) f fd ps (fnX N.length b) := by
  obtain ⟨oc, od, dV, kV, doc, pm, an, cdv, ct, osl, rfl, lk, hcd, _, _⟩ := F.ex
  refine ⟨fun A outer s H args us vs Q E rs O cs x hg hnd hr e0 hbd rv hl wd ar em p => ?_⟩
  have KX : K.In s.heap := e0.mod.kin.keeps fun a o e => (e0.bs a o e).1
  have lim : s.heap.NoLimit := e0.mod.nolimit.keeps fun a o e => (e0.bs a o e).1
  refine codeAny_call_function hr.depth (KX _ _ lk) rfl S.co S.gen rfl (PySem.W.codeRec_of KX hcd) (hbd _ _ _ _ ?_)
  refine wpAny_newFunctionEnv_cells S.kind (fun y hy => ?_) fun env he s1 xx => ?_
  · rcases S.par y.1 (List.of_mem_zip hy).1 with q | q
    · exact .inl q
    · exact .inr ⟨q, PySem.W.cellsFrom_some _ _ _ (.inl q)⟩
  · subst he
    refine ⟨lim.keeps xx.toInCall.keep, codeAny_func ?_⟩
    have I := inv_start (CX := L2.CX P w) (E := E) (qual := qual) (f := f) (cd := cdv) (outer := outer) S hr.hd e0 hl rv xx
    have hr' := hr.deeper (envOfC qual scope s.heap.objs.size f cdv)
    have rm : Rm (cxX P w K mg base N qual scope f cdv A outer s H E).nox := ⟨hr.hd, by
      have := hr'.un
      show (A.deeper (envOfC qual scope s.heap.objs.size f cdv)).units + 200 < cLine
      omega, by show A.guards = some []; exact hg, rfl, hnd⟩
    have hbody := hb cdv A outer s H E hr' rm rfl _ (takes_of (E := E) rfl rfl rfl rfl)
    obtain ⟨o, h1, h2⟩ := Option.bind_eq_some_iff.mp em
    refine wpAny_mono (hbody.run [] s1 (L2.start N vs) H { nx := fun _ H' => Q .non H', rt := Q } I ⟨cs.length, _, O, cs, o, h1, by rw [wd.len]; exact Nat.le_refl _, start_env ar, wd, post_finX wd h2 p⟩) (fun fl s' hs => ?_) fun e s' hs => hs
    cases fl with
    | ret u =>
      obtain ⟨v, σ', H', J, rv', q⟩ := hs
      exact ⟨v, H', J.os, J.bare, J.base, J.hok, rv', q⟩
    | next =>
      obtain ⟨σ', H', J, q⟩ := hs
      exact ⟨V.non, H', J.os, J.bare, J.base, J.hok, rfl, q⟩
    | brk =>
      obtain ⟨_, _, _, q⟩ := hs
      exact q.elim
    | cont =>
      obtain ⟨_, _, _, q⟩ := hs
      exact q.elim
section
end
end DL
/-! EX5: calls that may raise. -/
namespace DL
open PySem PySem.Spec PyProof.Rows L2
abbrev MR := Rho → Cs → Option RX
def tXR (K : PySem.W.Frag) (f : MR) (W : WX) : TE := fun σ H Q => ∃ ρ O cs x, f ρ cs = some x ∧ EnvOk K O H ρ σ ∧ Wd K O cs H ∧ PostR K O H x Q fun cls dd H' => W cls dd σ H'
/-- an expression that may raise -/
def XR (X : Cx) (f : MR) (e : Expr) : Prop := ∀ W, Takes X W → PE X e (tXR X.K f W)
section
variable {X : Cx}
theorem PostR.step {K : PySem.W.Frag} {O : List (Option Addr)} {H H1 : Hp} {cs1 : Cs} {x : RX} {Q : VK} {E : L2.XK} (h : PostR K O H x Q E) (c : Ch O H H1) (w1 : Wd K O cs1 H1) : PostR K O H1 x Q E := by
  cases x with
  | ex nm d cs' => exact fun cls dd H' c' w' e => h cls dd H' (c.trans c') w' e
  | ok r cs' => exact PostX.step h c w1
theorem PA.nox' {es : List Expr} {t : TA} (h : PA X.nox es t) : PA X es t := ⟨fun pos pins s σ H Q I hw =>
  wpAny_mono (h.run pos pins s σ H Q (I.wish _) hw) (fun _ _ ⟨vs, H', I', r, q⟩ => ⟨vs, H', I'.unwish, r, q⟩) fun _ _ z => False.elim z⟩
theorem callX_end {k : Nat} {f : Addr} {fd : FuncData} {ps : List Str} {m : MFX} {W : WX} {pins : List (Addr × Obj)} {σ : L2.St} {H : Hp} {s : Shared} {Q : VK} {us : List Value} {kw : List (Str × Value)} {us2 : List Value} {vs : List V} {rs : List Rv} {O : List (Option Addr)} {cs : Cs} {x : RX} (tk : Takes X W) (F : FnX X.prog X.w X.K X.mg X.base k f fd ps m) (hr : Room k X.A) (hg : X.A.guards = some []) (hnd : X.base.NoDigits)
    (I : Inv X pins σ H s) (hb : BindsTo s fd ⟨us, kw⟩ (ps.zip us2)) (rv : Vals vs us2) (hl : rs.length = ps.length) (wd : Wd X.K O cs H) (ar : ArRs X.K O H rs vs) (em : m rs cs = some x) (p : PostR X.K O H x Q fun cls dd H' => W cls dd σ H') :
    wpAny (model X.prog X.w) X.A (call (.ref f) us kw) (EP X pins σ Q) X.xe s := by
  refine wpAny_call (codeAny_mono (F.run X.A X.stack s H ⟨us, kw⟩ us2 vs Q (fun cls dd H' => W cls dd σ H') rs O cs x hg hnd hr I.env0 hb rv (by rw [← ar.length]; exact hl) wd ar em p) fun r s' hq => ?_)
  cases r with
  | error e => exact tk _ _ (XE.of_call I (fun _ _ _ h => h) hq)
  | ok fl => cases fl with
    | ret u => exact I.after hq
    | next => exact hq.elim
    | brk => exact hq.elim
    | cont => exact hq.elim
def mCallX (n : Nat) (m : MFX) (fa : MA) : MR := fun ρ cs => (fa ρ cs).bind fun p => if p.1.length = n then m p.1 p.2 else none
theorem xr_call {k : Nat} {f : Addr} {fd : FuncData} {ps : List Str} {m : MFX} {x : Str} {e : Expr} {es : List Expr} {fa : MA} {p pos : Pos} (F : FnX X.prog X.w X.K X.mg X.base k f fd ps m) (hr : Room k X.A) (rm : Rm X.nox) (hg : Gl X x) (hm : X.mg x = some (.ref f)) (hk : PySem.W.keepIn X.K (.ref f) = true)
    (hb : Binds X.K fd ps []) (ha : XA X.nox fa (e :: es)) (hdb : (x == ("__debug__" : Str)) = false := by decide)
    (he : starEach (e :: es) X.env = (false, eval e X.env) :: starEach es X.env := by rfl) (hpl : (backTo pos (starEach es X.env)).any (·.1) = false := by rfl) : XR X (mCallX ps.length m fa) (.Call (.Name x p) (e :: es) [] pos) := fun W tk => by
  refine ⟨fun pins s σ H Q I ⟨ρ, O, cs, y, e0, en, w, pq⟩ => ?_⟩
  obtain ⟨⟨rs, cs1⟩, h1, h2⟩ := Option.bind_eq_some_iff.mp e0
  obtain ⟨hl, em⟩ := ite_none h2
  refine wpAny_Call_Name_kw (ld_glob I hg hm ?_ hdb)
  have ha' : PA X (e :: es) (tXA X.K fa) := PA.nox' ha
  have hrun := ha'.run pos pins s σ H (ArgP X.K O H cs1 rs) I ⟨ρ, O, cs, rs, cs1, h1, en, w, fun vs H' c w' ra => ⟨c, w', ra⟩⟩
  refine PySem.W.callWith_K (h₀ := X.base) I.ok.mod.kin hk (thn hrun fun us s1 hus => ?_) he hpl
  obtain ⟨vs, H1, I1, rv, c1, w1, ra⟩ := hus
  refine ⟨I1.kIn, ?_⟩
  have hb' := hb s1 us I1.kIn (by rw [List.append_nil, ← rv.length, ← ra.length]; exact hl)
  rw [List.append_nil] at hb'
  exact callX_end tk F hr rm.gd rm.nd I1 hb' rv hl w1 ra em (pq.step c1 w1)
/-- the call alone -/
def xExpr (f : MR) : MX := fun _ ρ cs => (f ρ cs).map fun x => match x with
  | .ex nm d cs' => .ex nm d ρ cs'
  | .ok _ cs' => .out (.nx ρ cs')
theorem x1_expr {e : Expr} {f : MR} {pos : Pos} (he : XR X f e) (hs : swapsWith e none pos.line X.env = pure false := by rfl) : X1 X (xExpr f) (.Expr e pos) := fun W tk =>
  ps_weak (ps_expr (he W tk) hs) fun D σ H ⟨n0, ρ, O, cs, y, e0, hn, en, w, p⟩ => by
    obtain ⟨x, h1, rfl⟩ := Option.map_eq_some_iff.mp e0
    refine ⟨ρ, O, cs, x, h1, en, w, ?_⟩
    cases x with
    | ex nm d cs' => exact fun cls dd H' c w' hx => p cls dd σ O H' .refl c (en.ch c) w' hx
    | ok r cs' => exact fun v H' c w' rv => p σ O H' .refl c (en.ch c) w'
/-- return the call -/
def xRet (f : MR) : MX := fun n0 ρ cs => (f ρ cs).bind fun x => match x with
  | .ex nm d cs' => some (.ex nm d ρ cs')
  | .ok r cs' => (sRet (fun _ _ => some (r, cs')) n0 ρ cs').map .out
theorem x1_ret {e : Expr} {f : MR} {pos : Pos} (he : XR X f e) : X1 X (xRet f) (.Return (some e) pos) := fun W tk =>
  ps_weak (ps_ret (he W tk)) fun D σ H ⟨n0, ρ, O, cs, y, e0, hn, en, w, p⟩ => by
    obtain ⟨x, h1, h2⟩ := Option.bind_eq_some_iff.mp e0
    refine ⟨ρ, O, cs, x, h1, en, w, ?_⟩
    cases x with
    | ex nm d cs' =>
      cases h2
      exact fun cls dd H' c w' hx => p cls dd σ O H' .refl c (en.ch c) w' hx
    | ok r cs1 =>
      obtain ⟨o, h3, rfl⟩ := Option.map_eq_some_iff.mp h2
      intro v H' c w' rv
      cases r with
      | dat d => cases h3; exact p v O H' .refl c w' rv
      | exn nm d => cases h3
      | own k =>
        obtain ⟨_, h4⟩ := ite_some (show (if n0 ≤ k then some (Out.rt (.own k) cs1) else none) = some o from h3)
        subst h4
        exact p v O H' .refl c w' rv
      | fr l =>
        cases h3
        obtain ⟨q, rfl, hq, w2⟩ := rv
        refine p _ (O ++ [some q]) H' (ext_new (K := X.K) hn hq) c w2 ⟨q, rfl, ?_⟩
        show (O ++ [some q])[cs1.length]? = some (some q)
        rw [w'.len]; simp
/-- name = the call: data -/
def xSet (i : Nat) (f : MR) : MX := fun _ ρ cs => (f ρ cs).bind fun x => match x with
  | .ex nm d cs' => some (.ex nm d ρ cs')
  | .ok r cs' => match deg r with
    | .dat d => some (.out (.nx (ρ.set i (some (.dat d))) cs'))
    | _ => none
theorem x1_set {i : Nat} {x : Str} {e : Expr} {f : MR} {pos pos' : Pos} (hN : X.N.Nodup) (hi : X.N[i]? = some x) (hx : Loc X.env.scope x) (he : XR X f e) (hs : swapsWith e (some (.Name x pos')) pos.line X.env = pure false := by rfl)
    (hf : X.fn x = true ∨ X.env.scope.names.lookup x = some .local := by first | exact .inl rfl | exact .inr rfl) : X1 X (xSet i f) (.Assign [.Name x pos'] e pos) := fun W tk =>
  ps_weak (ps_set hN hi hx (he W tk) hs hf) fun D σ H ⟨n0, ρ, O, cs, y, e0, hn, en, w, p⟩ => by
    obtain ⟨z, h1, h2⟩ := Option.bind_eq_some_iff.mp e0
    refine ⟨ρ, O, cs, z, h1, en, w, ?_⟩
    cases z with
    | ex nm d cs' =>
      cases h2
      exact fun cls dd H' c w' hx => p cls dd σ O H' .refl c (en.ch c) w' hx
    | ok r cs1 =>
      intro v H' c w' rv
      have rr := rv.deg
      dsimp only at h2
      split at h2
      · rename_i d hd'
        cases h2
        rw [hd'] at rr
        exact p _ O H' .refl c ((en.ch c).set i rr) w'
      · cases h2
/-- the plain contract: where nothing is raised -/
def okM (m : MFX) : MF := fun rs cs => (m rs cs).bind fun x => match x with
  | .ok r cs' => some (r, cs')
  | .ex _ _ _ => none
theorem FnX.plain {P : Program} {w : World} {K : PySem.W.Frag} {mg : Str → Option Value} {base : Heap} {k : Nat} {f : Addr} {fd : FuncData} {ps : List Str} {m : MFX} (F : FnX P w K mg base k f fd ps m) : FnD P w K mg base k f fd ps (okM m) :=
  ⟨fun A outer s H args us vs Q rs O cs r cs' hg hnd hr e0 hb rv hl wd ar em p => by
    obtain ⟨x, h1, h2⟩ := Option.bind_eq_some_iff.mp em
    cases x with
    | ex nm d cs1 => cases h2
    | ok r1 cs1 =>
      cases h2
      refine codeAny_mono (F.run A outer s H args us vs Q (fun _ _ _ => False) rs O cs _ hg hnd hr e0 hb rv hl wd ar h1 p) fun res s' hq => ?_
      cases res with
      | error e =>
        obtain ⟨_, _, _, _, _, _, _, _, _, _, _, _, z⟩ := hq
        exact z.elim
      | ok fl =>
        cases fl with
        | ret u => exact hq
        | next => exact hq.elim
        | brk => exact hq.elim
        | cont => exact hq.elim⟩
theorem FnX.mono {P : Program} {w : World} {K : PySem.W.Frag} {mg : Str → Option Value} {base : Heap} {j k : Nat} {f : Addr} {fd : FuncData} {ps : List Str} {m : MFX} (F : FnX P w K mg base j f fd ps m) (h : j ≤ k) : FnX P w K mg base k f fd ps m :=
  ⟨fun A outer s H args us vs Q E rs O cs x hg hnd hr => F.run A outer s H args us vs Q E rs O cs x hg hnd (hr.mono h)⟩
/-- a def that may raise, ready to be called -/
structure CalX (P : Program) (w : World) (K : PySem.W.Frag) (mg : Str → Option Value) (base : Heap) (k : Nat) (x : Str) (st : Stmt) (ps : List Str) (m : MFX) : Prop where
  ex : ∃ (f : Addr) (fd : FuncData), FunD K x x (defArgs st) (defBody st) (defScope st) [] [] f fd ∧ FnX P w K mg base k f fd ps m ∧ mg x = some (.ref f) ∧ Binds K fd ps []
theorem CalX.plain {P : Program} {w : World} {K : PySem.W.Frag} {mg : Str → Option Value} {base : Heap} {k : Nat} {x : Str} {st : Stmt} {ps : List Str} {m : MFX} (C : CalX P w K mg base k x st ps m) : Cal P w K mg base k x st ps (okM m) :=
  let ⟨f, fd, F, G, hm, hb⟩ := C.ex
  ⟨⟨f, fd, F, G.plain, hm, hb⟩⟩
theorem wr_call {k j n : Nat} {x : Str} {st : Stmt} {ps : List Str} {m : MFX} {e : Expr} {es : List Expr} {fa : MA} {p pos : Pos} (C : CalX X.prog X.w X.K X.mg X.base j x st ps m) (hr : Room k X.A) (rm : Rm X.nox) (ha : XA X.nox fa (e :: es)) (hj : j ≤ k := by decide) (hg : Gl X x := by rfl) (hdb : (x == ("__debug__" : Str)) = false := by decide)
    (he : starEach (e :: es) X.env = (false, eval e X.env) :: starEach es X.env := by rfl) (hpl : (backTo pos (starEach es X.env)).any (·.1) = false := by rfl) (hn : ps.length = n := by rfl) : XR X (mCallX n m fa) (.Call (.Name x p) (e :: es) [] pos) := by
  subst hn
  obtain ⟨f, fd, F, G, hm, hb⟩ := C.ex
  exact xr_call G (hr.mono hj) rm hg hm F.kp hb ha hdb he hpl
theorem calX_of {P : Program} {w : World} {K : PySem.W.Frag} {mg : Str → Option Value} {base : Heap} {k : Nat} {x : Str} {st : Stmt} {ps : List Str} {N : List Str} {b : MX} (F : ∃ f fd, FunD K x x (defArgs st) (defBody st) (defScope st) [] [] f fd ∧ mg x = some (.ref f)) (S : FnScope N ps (defScope st))
    (hb : ∀ (kV doc pm : Value) (an : Option Addr) (cdv ct : Value) (us : List Value), us.length = ps.length → bindArgs (PySem.W.fnOf x x (defArgs st) (defBody st) (defScope st) .none kV doc pm an cdv ct) ⟨us, []⟩ = pure (ps.zip us))
    (h : ∀ (f : Addr) (cdv : Value) (A : Around) (outer : List Env) (s : Shared) (H : Hp) (E : L2.XK), Room k (A.deeper (envOfC x (defScope st) s.heap.objs.size f cdv)) → Rm (cxX P w K mg base N x (defScope st) f cdv A outer s H E).nox → (cxX P w K mg base N x (defScope st) f cdv A outer s H E).calm = true → XSX (cxX P w K mg base N x (defScope st) f cdv A outer s H E) b (defBody st)) :
    CalX P w K mg base (k + 1) x st ps (fnX N.length b) := by
  obtain ⟨f, fd, F, hm⟩ := F
  exact ⟨f, fd, F, fnX_of F S fun cdv A outer s H E hr rm hc => h f cdv A outer s H E hr rm hc, hm, F.bindsN hb⟩
end
end DL
/-! EX6: try, for over what may raise, either of two calls. -/
namespace DL
open PySem PySem.Spec PyProof.Rows L2
section
variable {X : Cx}
theorem EnvOk.unset {K : PySem.W.Frag} {O : List (Option Addr)} {H : Hp} {ρ : Rho} {σ : L2.St} (e : EnvOk K O H ρ σ) (i : Nat) : EnvOk K O H (ρ.set i none) (σ.set i none) := e.wipe [i]
/-- try: body; except nm' as (slot i): (slot j) = (slot i) -/
def sTry (nm' : Str) (i j : Nat) (f : MX) : MS := fun n0 ρ cs => (f n0 ρ cs).bind fun x => match x with
  | .out o => some o
  | .ex nm d ρ' cs' => if (decide (i < ρ'.length) && subN nm nm') = true then some (.nx ((ρ'.set j (some (.exn nm d))).set i none) cs') else none
theorem xs_try {x n m : Str} {CC : Addr} {i j : Nat} {body : List Stmt} {f : MX} {np p1 p2 p3 pos pos' : Pos} (hc : ClsOf X.K X.mg x CC) (hbe : PySem.W.subIn X.K (.ref CC) (.type "BaseException") = some true)
    (hN : X.N.Nodup) (hb : ∀ (pn : List (Addr × Obj)) (xe : Value → Shared → Prop), PassesOwn (model X.prog X.w) X.A X.env xe → XSX (X.tr pn xe) f body)
    (hi : X.N[i]? = some n := by rfl) (hj : X.N[j]? = some m := by rfl) (hij : (i == j) = false := by decide) (hln : X.env.kindOf n = some .local := by rfl) (hloc : Loc X.env.scope m := by first | exact Or.inl rfl | exact Or.inr rfl)
    (hg : Gl X x := by rfl) (hdb : (x == ("__debug__" : Str)) = false := by decide) (hv : Vis X.env.scope n := by first | exact Or.inl rfl | exact Or.inr (Or.inl rfl) | exact Or.inr (Or.inr rfl)) (hd : (n == ("__debug__" : Str)) = false := by decide) (hcd : (n == ("__classdict__" : Str)) = false := by decide)
    (hs : swapsWith (.Name n p2) (some (.Name m p1)) p3.line X.env = pure false := by rfl) (hfn : X.fn m = true ∨ X.env.scope.names.lookup m = some .local := by first | exact .inl rfl | exact .inr rfl)
    (hex : X.ex = [] := by rfl) (hst : X.stack = X.env :: X.outer := by rfl) (hf : X.env.frame = some X.env.locals := by rfl) :
    XS X (sTry x i j f) (.Try body [.ExceptHandler (some (.Name x np)) (some n) [.Assign [.Name m p1] (.Name n p2) p3] pos'] [] [] pos) := by
  have hij' : i ≠ j := by simpa using hij
  refine ps_weak (ps_try_keep (Wout := fun _ _ _ _ => False) (i := i) (c := .ref CC) (tb := fun W => tSX X.K f W) (ts := fun a cls d D σ H => ∃ v, σ[i]? = some (some v) ∧ D.nx (σ.set j (some v)) H) hex hst hf hN hi hln ⟨hg, hdb, .inl hc.g⟩ (fun u s' ⟨_, _, _, _, _, _, _, _, _, _, _, _, _, _, _, _, z⟩ => z.elim)
    (fun W pn xe tk po => hb pn xe po W tk) (fun a oe cls d pn hz hd' => pss_weak (pss_one (ps_set (X := X.suite a ((a, oe) :: pn)) hN hj hloc (pe_var hi hv hd hcd) hs hfn)) fun D σ H h => h)) ?_
  intro D σ H ⟨n0, ρ, O, cs, out, e0, hn, en, w, p⟩
  obtain ⟨x, e1, e2⟩ := Option.bind_eq_some_iff.mp e0
  refine ⟨n0, ρ, O, cs, x, e1, hn, en, w, ?_⟩
  cases x with
  | out o =>
    cases e2
    exact p
  | ex nm d ρ' cs' =>
    obtain ⟨hsub', rfl⟩ := ite_some (show (if (decide (i < ρ'.length) && subN nm _) = true then some (Out.nx ((ρ'.set j (some (.exn nm d))).set i none) cs') else none) = some out from e2)
    rw [Bool.and_eq_true, decide_eq_true_iff] at hsub'
    obtain ⟨hlt, hsub⟩ := hsub'
    rintro cls dd σ' O' H' ex c en' w' ⟨C, a0, y, rfl, rfl, kd, hx, ry⟩
    refine ⟨true, by rw [kd.exm _ hc.mem hbe, hsub], fun _ a na => ?_, fun z => nomatch z⟩
    have hiN : i < σ'.length := by
      rw [← en'.len]; exact hlt
    refine ⟨.ref a, by rw [List.getElem?_set_self hiN], ?_⟩
    have c2 : Ch O' H' (upd H' a (exv a (.ref C) (some a0))) := ch_new na
    have w2 : Wd X.K O' cs' (upd H' a (exv a (.ref C) (some a0))) := w'.new na
    refine p _ O' _ ex (c.ext ex c2) ?_ w2
    have ar : ArR X.K O' (.exn nm d) (.ref a) (upd H' a (exv a (.ref C) (some a0))) := by
      refine ⟨a, C, a0, y, rfl, kd, hd_of (w'.fresh na) upd_same, c2.data _ _ hx, ry.mono c2.data⟩
    have e3 := (((en'.unset i).ch c2).set j ar).unset i
    have q1 : ((ρ'.set i none).set j (some (Rv.exn nm d))).set i none = (ρ'.set j (some (.exn nm d))).set i none := by
      rw [List.set_comm _ _ hij', List.set_set]
    have q2 : ((σ'.set i none).set j (some (V.ref a))).set i none = ((σ'.set i (some (V.ref a))).set j (some (.ref a))).set i none := by
      rw [List.set_comm _ _ hij', List.set_set, List.set_comm (some (V.ref a)) _ hij', List.set_set]
    rw [q1, q2] at e3
    exact e3
/-! ### for over what may raise -/
def loopX (g : MG) (b : MX) (n0 : Nat) : List D → Rho → Cs → Option XOu
  | [], ρ, cs => some (.out (.nx ρ cs))
  | d :: ds, ρ, cs => (g d ρ).bind fun ρ1 => (b n0 ρ1 cs).bind fun o => match o with
    | .out (.nx ρ2 cs2) => loopX g b n0 ds ρ2 cs2
    | .out (.ct ρ2 cs2) => loopX g b n0 ds ρ2 cs2
    | .out (.bk ρ2 cs2) => some (.out (.nx ρ2 cs2))
    | .out (.rt r cs2) => some (.out (.rt r cs2))
    | .ex nm d ρ2 cs2 => some (.ex nm d ρ2 cs2)
def xFor (f : MI) (g : MG) (b : MX) : MX := fun n0 ρ cs => (f ρ cs).bind fun p => loopX g b n0 p.1 ρ p.2
theorem x1_for {tg iter : Expr} {body : List Stmt} {f : MI} {g : MG} {b : MX} {pos : Pos} {ws : List Nat} (hp : PassesOwn (model X.prog X.w) X.A X.env X.xe) (hc : X.calm = true) (hi : XI X f tg iter) (hg : XG X ws g tg) (hb : XSX X b body)
    (hs : ∀ x, foldedSetIterable iter X.env x = pure x := by intro _; rfl) : X1 X (xFor f g b) (.For tg iter body [] pos) := fun W tk =>
  ps_weak (ps_for hp hc hi hg (hb W tk) hs) fun D σ H ⟨n0, ρ, O, cs, out, e0, hn, en, w, p⟩ => by
    obtain ⟨⟨ds, cs1⟩, g1, g2⟩ := Option.bind_eq_some_iff.mp e0
    clear e0
    refine ⟨ρ, O, cs, ds, cs1, g1, en, w, fun J H1 c1 w1 wk => ?_⟩
    have p1 := p.step w w1 .refl c1
    refine ⟨fun i m σ' H' => m = ds.length - i ∧ i ≤ ds.length ∧ ∃ ρ' O' cs', loopX g b n0 (ds.drop i) ρ' cs' = some out ∧ EnvOk X.K O' H' ρ' σ' ∧ Wd X.K O' cs' H' ∧ Ext n0 O O' H1 ∧ Ch O H1 H', ⟨ds.length, by simp, Nat.zero_le _, ρ, O, cs1, g2, en.ch c1, w1, .refl, .refl⟩, ?_⟩
    rintro i m σ' H' ⟨rfl, hi', ρ', O', cs', e1, en', w', ex', ch'⟩
    have sb : Sub O H1 O' H' := Sub.of ex' ch'
    have hn' : n0 ≤ O'.length := ex'.len hn
    have p' : PostX' X.K n0 O' H' out W D := p1.step w1 w' ex' ch'
    by_cases hlt : i < ds.length
    · have hd' : ds[i]? = some ds[i] := List.getElem?_eq_getElem hlt
      rw [List.drop_eq_getElem_cons hlt] at e1
      obtain ⟨ρ1, h1, e2⟩ := Option.bind_eq_some_iff.mp e1
      obtain ⟨o, h3, e3⟩ := Option.bind_eq_some_iff.mp e2
      clear e1 e2
      obtain ⟨go, yl⟩ := (wk i O' cs' H' sb w').2 _ hd'
      refine .inr ⟨go, fun σ2 H2 => i + 1 ≤ ds.length ∧ ∃ ρ2 O2 cs2, loopX g b n0 (ds.drop (i + 1)) ρ2 cs2 = some out ∧ EnvOk X.K O2 H2 ρ2 σ2 ∧ Wd X.K O2 cs2 H2 ∧ Ext n0 O O2 H1 ∧ Ch O H1 H2, fun σ2 H2 h2 => ⟨ds.length - (i + 1), by omega, rfl, h2⟩, fun x H3 hy => ?_⟩
      obtain ⟨c3, w3, r3⟩ := yl x H3 hy
      refine ⟨ρ', O', cs', ds[i], ρ1, h1, r3, en'.ch c3, w3, fun σ4 en4 _ => ?_⟩
      refine ⟨n0, ρ1, O', cs', o, h3, hn', en4, w3, ?_⟩
      have again : ∀ ρ2 cs2, loopX g b n0 (ds.drop (i + 1)) ρ2 cs2 = some out → ∀ σ5 O5 H5, Ext n0 O' O5 H3 → Ch O' H3 H5 → EnvOk X.K O5 H5 ρ2 σ5 → Wd X.K O5 cs2 H5 →
          i + 1 ≤ ds.length ∧ ∃ ρ2 O2 cs2, loopX g b n0 (ds.drop (i + 1)) ρ2 cs2 = some out ∧ EnvOk X.K O2 H5 ρ2 σ5 ∧ Wd X.K O2 cs2 H5 ∧ Ext n0 O O2 H1 ∧ Ch O H1 H5 := fun ρ2 cs2 hl σ5 O5 H5 e5 c5 en5 w5 => by
        have ex3 : Ext n0 O O' H1 := ex'
        have ch3 : Ch O H1 H3 := ch'.ext ex' c3
        exact ⟨hlt, ρ2, O5, cs2, hl, en5, w5, ex3.trans w1 w3 ch3 e5, ch3.ext ex3 c5⟩
      have p3 : PostX' X.K n0 O' H3 out W D := p'.step w' w3 .refl c3
      cases o with
      | ex nm d ρ2 cs2 => cases e3; exact p3
      | out o =>
        cases o with
        | nx ρ2 cs2 => exact again ρ2 cs2 e3
        | ct ρ2 cs2 => exact again ρ2 cs2 e3
        | bk ρ2 cs2 => cases e3; exact p3
        | rt r cs2 => cases e3; exact p3
    · have ei : i = ds.length := by omega
      subst ei
      rw [List.drop_length] at e1
      cases e1
      exact .inl ⟨(wk ds.length O' cs' H' sb w').1 (Nat.le_refl _), p' _ O' H' .refl .refl en' w'⟩
/-! ### one of two calls -/
def rIf (c : MT) (f g : MR) : MR := fun ρ cs => (c ρ cs).bind fun p => if p.1 = true then f ρ p.2 else g ρ p.2
theorem xr_if {c a b : Expr} {t : MT} {f g : MR} {pos : Pos} (hc : XT X.nox t c) (ha : XR X f a) (hb : XR X g b) : XR X (rIf t f g) (.IfExp c a b pos) := fun W tk => by
  have hc' : PT X c (tXT X.K t) := PT.nox hc
  refine pe_weak (pe_ifExp hc' (ha W tk) (hb W tk)) fun σ H Q ⟨ρ, O, cs, x, e0, en, w, p⟩ => ?_
  obtain ⟨⟨k, cs1⟩, h1, h2⟩ := Option.bind_eq_some_iff.mp e0
  refine ⟨ρ, O, cs, k, cs1, h1, en, w, fun H' c' w' => ?_⟩
  have p' := p.step c' w'
  cases k with
  | true => exact ⟨ρ, O, cs1, x, h2, en.ch c', w', p'⟩
  | false => exact ⟨ρ, O, cs1, x, h2, en.ch c', w', p'⟩
/-- a plain expression beside one that raises -/
def rPl (f : ME) : MR := fun ρ cs => (f ρ cs).map fun p => .ok p.1 p.2
theorem xr_pl {e : Expr} {f : ME} (h : XE X.nox f e) : XR X (rPl f) e := fun W tk => by
  have h' : PE X e (tX X.K f) := PE.nox h
  refine pe_weak h' fun σ H Q ⟨ρ, O, cs, x, e0, en, w, p⟩ => ?_
  obtain ⟨⟨r, cs1⟩, h1, rfl⟩ := Option.map_eq_some_iff.mp e0
  exact ⟨ρ, O, cs, r, cs1, h1, en, w, p⟩
end
end DL
/-! EV2: running mirrors that may raise. -/
namespace DL
open PySem PySem.Spec PyProof.Rows L2
section
variable {fa fb fe : ME} {ρ : Rho} {cs : Cs} {Q : Rv → Cs → Prop} {QS : Out → Prop} {QX : XOu → Prop} {QR : RX → Prop} {n0 : Nat} {f g : MX} {h : MR}
def Ex (f : MX) (n0 : Nat) (ρ : Rho) (cs : Cs) (Q : XOu → Prop) : Prop := wpd (f n0 ρ cs) Q
def Er (f : MR) (ρ : Rho) (cs : Cs) (Q : RX → Prop) : Prop := wpd (f ρ cs) Q
def Emx (m : MFX) (rs : List Rv) (cs : Cs) (Q : RX → Prop) : Prop := wpd (m rs cs) Q
@[simp] theorem deg_exn {nm : Str} {d : D} : deg (.exn nm d) = .exn nm d := rfl
@[simp] theorem ex_xTail {b : MS} : Ex (xTail b) n0 ρ cs QX ↔ Es b n0 ρ cs fun o => QX (.out o) := wpd_map
@[simp] theorem ex_xOut {b : MS} : Ex (xOut b) n0 ρ cs QX ↔ Es b n0 ρ cs fun o => QX (.out o) := wpd_map
@[simp] theorem ex_xNil : Ex xNil n0 ρ cs QX ↔ QX (.out (.nx ρ cs)) := Iff.rfl
def NxX (n0 : Nat) (g : MX) (Q : XOu → Prop) : Out → Prop
  | .nx ρ cs => Ex g n0 ρ cs Q
  | o => Q (.out o)
@[simp] theorem nxx_nx : NxX n0 g QX (.nx ρ cs) ↔ Ex g n0 ρ cs QX := Iff.rfl
@[simp] theorem nxx_rt {r : Rv} : NxX n0 g QX (.rt r cs) ↔ QX (.out (.rt r cs)) := Iff.rfl
@[simp] theorem nxx_bk : NxX n0 g QX (.bk ρ cs) ↔ QX (.out (.bk ρ cs)) := Iff.rfl
@[simp] theorem nxx_ct : NxX n0 g QX (.ct ρ cs) ↔ QX (.out (.ct ρ cs)) := Iff.rfl
@[simp] theorem ex_xSeq {b : MS} : Ex (xSeq b g) n0 ρ cs QX ↔ Es b n0 ρ cs (NxX n0 g QX) := by
  unfold Ex Es xSeq
  rw [wpd_bind]
  refine iff_of_eq (congrArg _ (funext fun o => propext ?_))
  cases o <;> exact Iff.rfl
def NxQ (n0 : Nat) (g : MX) (Q : XOu → Prop) : XOu → Prop
  | .out (.nx ρ cs) => Ex g n0 ρ cs Q
  | x => Q x
@[simp] theorem nxq_nx : NxQ n0 g QX (.out (.nx ρ cs)) ↔ Ex g n0 ρ cs QX := Iff.rfl
@[simp] theorem nxq_rt {r : Rv} : NxQ n0 g QX (.out (.rt r cs)) ↔ QX (.out (.rt r cs)) := Iff.rfl
@[simp] theorem nxq_bk : NxQ n0 g QX (.out (.bk ρ cs)) ↔ QX (.out (.bk ρ cs)) := Iff.rfl
@[simp] theorem nxq_ct : NxQ n0 g QX (.out (.ct ρ cs)) ↔ QX (.out (.ct ρ cs)) := Iff.rfl
@[simp] theorem nxq_ex {nm : Str} {d : D} : NxQ n0 g QX (.ex nm d ρ cs) ↔ QX (.ex nm d ρ cs) := Iff.rfl
@[simp] theorem ex_xSq : Ex (xSq f g) n0 ρ cs QX ↔ Ex f n0 ρ cs (NxQ n0 g QX) := by
  unfold Ex xSq
  rw [wpd_bind]
  refine iff_of_eq (congrArg _ (funext fun x => propext ?_))
  cases x with
  | ex nm d ρ cs => exact Iff.rfl
  | out o => cases o <;> exact Iff.rfl
@[simp] theorem ex_xIf {c : MT} : Ex (xIf c f g) n0 ρ cs QX ↔ Et c ρ cs fun b cs1 => if b = true then Ex f n0 ρ cs1 QX else Ex g n0 ρ cs1 QX := by
  unfold Ex Et xIf
  rw [wpo_bindd]
  refine iff_of_eq (congrArg _ (funext fun b => funext fun cs1 => propext ?_))
  cases b <;> simp
@[simp] theorem ex_xRaise {nm : Str} : Ex (xRaise nm fe) n0 ρ cs QX ↔ Ev fe ρ cs fun r cs1 => DatOf r fun d => QX (.ex nm d ρ cs1) := by
  unfold Ex Ev xRaise DatOf
  rw [wpo_bindd]
  refine iff_of_eq (congrArg _ (funext fun x => funext fun cs1 => propext ?_))
  cases x <;> exact Iff.rfl
@[simp] theorem er_mCallX {n : Nat} {m : MFX} {fr : MA} : Er (mCallX n m fr) ρ cs QR ↔ Ea fr ρ cs fun rs cs1 => rs.length = n ∧ Emx m rs cs1 QR := by
  unfold Er Ea Emx mCallX
  rw [wpo_bindd]
  refine iff_of_eq (congrArg _ (funext fun x => funext fun cs1 => propext ?_))
  exact wpd_ite
@[simp] theorem er_rIf {c : MT} {g : MR} : Er (rIf c h g) ρ cs QR ↔ Et c ρ cs fun b cs1 => if b = true then Er h ρ cs1 QR else Er g ρ cs1 QR := by
  unfold Er Et rIf
  rw [wpo_bindd]
  refine iff_of_eq (congrArg _ (funext fun b => funext fun cs1 => propext ?_))
  cases b <;> simp
@[simp] theorem er_rPl : Er (rPl fa) ρ cs QR ↔ Ev fa ρ cs fun r cs1 => QR (.ok r cs1) := wpo_mapd
/-- the result of a call, where it stands alone -/
def XE1 (ρ : Rho) (Q : XOu → Prop) : RX → Prop
  | .ex nm d cs' => Q (.ex nm d ρ cs')
  | .ok _ cs' => Q (.out (.nx ρ cs'))
@[simp] theorem xe1_ex {nm : Str} {d : D} : XE1 ρ QX (.ex nm d cs) ↔ QX (.ex nm d ρ cs) := Iff.rfl
@[simp] theorem xe1_ok {r : Rv} : XE1 ρ QX (.ok r cs) ↔ QX (.out (.nx ρ cs)) := Iff.rfl
@[simp] theorem ex_xExpr : Ex (xExpr h) n0 ρ cs QX ↔ Er h ρ cs (XE1 ρ QX) := by
  unfold Ex Er xExpr
  rw [wpd_map]
  refine iff_of_eq (congrArg _ (funext fun x => propext ?_))
  cases x <;> exact Iff.rfl
def XR1 (n0 : Nat) (ρ : Rho) (Q : XOu → Prop) : RX → Prop
  | .ex nm d cs' => Q (.ex nm d ρ cs')
  | .ok r cs' => Ret n0 r cs' fun o => Q (.out o)
@[simp] theorem xr1_ex {nm : Str} {d : D} : XR1 n0 ρ QX (.ex nm d cs) ↔ QX (.ex nm d ρ cs) := Iff.rfl
@[simp] theorem xr1_ok {r : Rv} : XR1 n0 ρ QX (.ok r cs) ↔ Ret n0 r cs fun o => QX (.out o) := Iff.rfl
@[simp] theorem ex_xRet : Ex (xRet h) n0 ρ cs QX ↔ Er h ρ cs (XR1 n0 ρ QX) := by
  unfold Ex Er xRet
  rw [wpd_bind]
  refine iff_of_eq (congrArg _ (funext fun x => propext ?_))
  cases x with
  | ex nm d cs' => exact Iff.rfl
  | ok r cs' =>
    show wpd ((sRet (fun _ _ => some (r, cs')) n0 ρ cs').map XOu.out) QX ↔ _
    rw [wpd_map]
    exact es_sRet
def XS1 (i : Nat) (ρ : Rho) (Q : XOu → Prop) : RX → Prop
  | .ex nm d cs' => Q (.ex nm d ρ cs')
  | .ok r cs' => DatOf r fun d => Q (.out (.nx (ρ.set i (some (.dat d))) cs'))
@[simp] theorem xs1_ex {i : Nat} {nm : Str} {d : D} : XS1 i ρ QX (.ex nm d cs) ↔ QX (.ex nm d ρ cs) := Iff.rfl
@[simp] theorem xs1_ok {i : Nat} {r : Rv} : XS1 i ρ QX (.ok r cs) ↔ DatOf r fun d => QX (.out (.nx (ρ.set i (some (.dat d))) cs)) := Iff.rfl
@[simp] theorem ex_xSet {i : Nat} : Ex (xSet i h) n0 ρ cs QX ↔ Er h ρ cs (XS1 i ρ QX) := by
  unfold Ex Er xSet
  rw [wpd_bind]
  refine iff_of_eq (congrArg _ (funext fun x => propext ?_))
  cases x with
  | ex nm d cs' => exact Iff.rfl
  | ok r cs' => cases r <;> exact Iff.rfl
def FinX (n : Nat) (Q : RX → Prop) : XOu → Prop
  | .ex nm d _ cs' => Q (.ex nm d (cs'.take n))
  | .out o => Fin n (fun r cs' => Q (.ok r cs')) o
@[simp] theorem finx_ex {n : Nat} {nm : Str} {d : D} : FinX n QR (.ex nm d ρ cs) ↔ QR (.ex nm d (cs.take n)) := Iff.rfl
@[simp] theorem finx_out {n : Nat} {o : Out} : FinX n QR (.out o) ↔ Fin n (fun r cs' => QR (.ok r cs')) o := Iff.rfl
theorem finM_iff {n : Nat} {o : Out} {Q : Rv → Cs → Prop} : wpo (finM n o) Q ↔ Fin n Q o := by
  cases o with
  | rt r cs' =>
    cases r with
    | dat d => exact Iff.rfl
    | fr c => exact Iff.rfl
    | exn nm d => exact Iff.rfl
    | own k =>
      show wpo (if n ≤ k then _ else none) Q ↔ n ≤ k ∧ wpd cs'[k]?.join _
      rw [wpo_ite]
      refine and_congr_right fun _ => ?_
      cases cs'[k]? with
      | none => exact Iff.rfl
      | some x => cases x <;> exact Iff.rfl
  | nx ρ cs' => exact Iff.rfl
  | bk _ _ => exact Iff.rfl
  | ct _ _ => exact Iff.rfl
theorem emx_fnX {n : Nat} {b : MX} {rs : List Rv} : Emx (fnX n b) rs cs QR ↔ Ex b cs.length (rs.map some ++ List.replicate (n - rs.length) none) cs (FinX cs.length QR) := by
  unfold Emx Ex fnX
  rw [wpd_bind]
  refine iff_of_eq (congrArg _ (funext fun x => propext ?_))
  cases x with
  | ex nm d ρ cs' => exact Iff.rfl
  | out o =>
    show wpd ((finM cs.length o).map fun p => RX.ok p.1 p.2) QR ↔ _
    rw [wpo_mapd]
    exact finM_iff
def OkX (Q : Rv → Cs → Prop) : RX → Prop
  | .ok r cs' => Q r cs'
  | .ex _ _ _ => False
@[simp] theorem okx_ok {r : Rv} : OkX Q (.ok r cs) ↔ Q r cs := Iff.rfl
@[simp] theorem okx_ex {nm : Str} {d : D} : OkX Q (.ex nm d cs) ↔ False := Iff.rfl
theorem em_okM {m : MFX} {rs : List Rv} : Em (okM m) rs cs Q ↔ Emx m rs cs (OkX Q) := by
  unfold Em Emx okM
  rw [wpd_bindo]
  refine iff_of_eq (congrArg _ (funext fun x => propext ?_))
  cases x <;> exact Iff.rfl
def Tr (nm' : Str) (i j : Nat) (Q : Out → Prop) : XOu → Prop
  | .out o => Q o
  | .ex nm d ρ' cs' => (decide (i < ρ'.length) && subN nm nm') = true ∧ Q (.nx ((ρ'.set j (some (.exn nm d))).set i none) cs')
@[simp] theorem tr_out {nm' : Str} {i j : Nat} {o : Out} : Tr nm' i j QS (.out o) ↔ QS o := Iff.rfl
@[simp] theorem tr_ex {nm' nm : Str} {d : D} {i j : Nat} : Tr nm' i j QS (.ex nm d ρ cs) ↔ (decide (i < ρ.length) && subN nm nm') = true ∧ QS (.nx ((ρ.set j (some (.exn nm d))).set i none) cs) := Iff.rfl
@[simp] theorem es_sTry {nm' : Str} {i j : Nat} : Es (sTry nm' i j f) n0 ρ cs QS ↔ Ex f n0 ρ cs (Tr nm' i j QS) := by
  unfold Es Ex sTry
  rw [wpd_bind]
  refine iff_of_eq (congrArg _ (funext fun x => propext ?_))
  cases x with
  | out o => exact Iff.rfl
  | ex nm d ρ' cs' => exact wpd_ite
def IsX1 (nm : Str) (r : Rv) (cs : Cs) (Q : Rv → Cs → Prop) : Prop := match r with
  | .exn n _ => Q (db (subN n nm)) cs
  | r => Rd1 r cs fun _ => Q (db false) cs
@[simp] theorem isx1_exn {nm n : Str} {d : D} : IsX1 nm (.exn n d) cs Q ↔ Q (db (subN n nm)) cs := Iff.rfl
@[simp] theorem isx1_dat {nm : Str} {d : D} : IsX1 nm (.dat d) cs Q ↔ Q (db false) cs := Iff.rfl
@[simp] theorem isx1_fr {nm : Str} {c : List D} : IsX1 nm (.fr c) cs Q ↔ Q (db false) cs := Iff.rfl
@[simp] theorem ev_mIsX {nm : Str} : Ev (mIsX nm fa) ρ cs Q ↔ Ev fa ρ cs fun r cs1 => IsX1 nm r cs1 Q := by
  unfold Ev mIsX
  rw [wpo_bind]
  refine iff_of_eq (congrArg _ (funext fun x => funext fun cs1 => propext ?_))
  cases x <;> first | exact Iff.rfl | exact wpd_mapo
def Val1 (r : Rv) (Q : D → Prop) : Prop := match r with
  | .exn _ d => Q d
  | _ => False
@[simp] theorem val1_exn {nm : Str} {d : D} {Q : D → Prop} : Val1 (.exn nm d) Q ↔ Q d := Iff.rfl
@[simp] theorem ev_mVal : Ev (mVal fa) ρ cs Q ↔ Ev fa ρ cs fun r cs1 => Val1 r fun d => Q (.dat d) cs1 := by
  unfold Ev mVal
  rw [wpo_bind]
  refine iff_of_eq (congrArg _ (funext fun x => funext fun cs1 => propext ?_))
  cases x <;> exact Iff.rfl
def IsN1 (p : Bool → Bool) (r : Rv) (cs : Cs) (Q : Rv → Cs → Prop) : Prop := match r with
  | .exn _ _ => Q (db (p false)) cs
  | r => Rd1 r cs fun d => Q (db (p (isNonD d))) cs
@[simp] theorem isn1_exn {p : Bool → Bool} {n : Str} {d : D} : IsN1 p (.exn n d) cs Q ↔ Q (db (p false)) cs := Iff.rfl
@[simp] theorem isn1_dat {p : Bool → Bool} {d : D} : IsN1 p (.dat d) cs Q ↔ Q (db (p (isNonD d))) cs := Iff.rfl
@[simp] theorem isn1_fr {p : Bool → Bool} {c : List D} : IsN1 p (.fr c) cs Q ↔ Q (db (p false)) cs := Iff.rfl
@[simp] theorem ev_mIsN {p : Bool → Bool} : Ev (mIsN p fa) ρ cs Q ↔ Ev fa ρ cs fun r cs1 => IsN1 p r cs1 Q := by
  unfold Ev mIsN
  rw [wpo_bind]
  refine iff_of_eq (congrArg _ (funext fun x => funext fun cs1 => propext ?_))
  cases x <;> first | exact Iff.rfl | exact wpd_mapo
def Elx (t : MG) (b : MX) (n0 : Nat) (ds : List D) (ρ : Rho) (cs : Cs) (Q : XOu → Prop) : Prop := wpd (loopX t b n0 ds ρ cs) Q
@[simp] theorem ex_xFor {i : MI} {t : MG} {b : MX} : Ex (xFor i t b) n0 ρ cs QX ↔ Ei i ρ cs fun ds cs1 => Elx t b n0 ds ρ cs1 QX := wpo_bindd
@[simp] theorem elx_nil {t : MG} {b : MX} : Elx t b n0 [] ρ cs QX ↔ QX (.out (.nx ρ cs)) := Iff.rfl
def Lpx (t : MG) (b : MX) (n0 : Nat) (ds : List D) (Q : XOu → Prop) : XOu → Prop
  | .out (.nx ρ cs) => Elx t b n0 ds ρ cs Q
  | .out (.ct ρ cs) => Elx t b n0 ds ρ cs Q
  | .out (.bk ρ cs) => Q (.out (.nx ρ cs))
  | .out (.rt r cs) => Q (.out (.rt r cs))
  | .ex nm d ρ cs => Q (.ex nm d ρ cs)
@[simp] theorem lpx_nx {t : MG} {b : MX} {ds : List D} : Lpx t b n0 ds QX (.out (.nx ρ cs)) ↔ Elx t b n0 ds ρ cs QX := Iff.rfl
@[simp] theorem lpx_ct {t : MG} {b : MX} {ds : List D} : Lpx t b n0 ds QX (.out (.ct ρ cs)) ↔ Elx t b n0 ds ρ cs QX := Iff.rfl
@[simp] theorem lpx_rt {t : MG} {b : MX} {ds : List D} {r : Rv} : Lpx t b n0 ds QX (.out (.rt r cs)) ↔ QX (.out (.rt r cs)) := Iff.rfl
@[simp] theorem lpx_ex {t : MG} {b : MX} {ds : List D} {nm : Str} {d : D} : Lpx t b n0 ds QX (.ex nm d ρ cs) ↔ QX (.ex nm d ρ cs) := Iff.rfl
theorem elx_cons {t : MG} {b : MX} {d : D} {ds : List D} : Elx t b n0 (d :: ds) ρ cs QX ↔ Eg t d ρ fun ρ1 => Ex b n0 ρ1 cs (Lpx t b n0 ds QX) := by
  unfold Elx Eg Ex
  rw [show loopX t b n0 (d :: ds) ρ cs = (t d ρ).bind fun ρ1 => (b n0 ρ1 cs).bind fun o => match o with
    | .out (.nx ρ2 cs2) => loopX t b n0 ds ρ2 cs2
    | .out (.ct ρ2 cs2) => loopX t b n0 ds ρ2 cs2
    | .out (.bk ρ2 cs2) => some (.out (.nx ρ2 cs2))
    | .out (.rt r cs2) => some (.out (.rt r cs2))
    | .ex nm d ρ2 cs2 => some (.ex nm d ρ2 cs2) from rfl, wpd_bind]
  refine iff_of_eq (congrArg _ (funext fun ρ1 => propext ?_))
  rw [wpd_bind]
  refine iff_of_eq (congrArg _ (funext fun o => propext ?_))
  cases o with
  | ex nm d ρ cs => exact Iff.rfl
  | out o => cases o <;> exact Iff.rfl
/-- a def that may raise, told by its plain law -/
theorem emx_mono {m : MFX} {rs : List Rv} {Q R : RX → Prop} (h : Emx m rs cs Q) (i : ∀ x, Q x → R x) : Emx m rs cs R := wpd_mono h i
end
end DL
/-! W1: rules as the printed walk names them. -/
namespace DL
open PySem PySem.Spec PyProof.Rows L2
section
variable {X : Cx}
theorem Rm.ofnox (rm : Rm X.nox) : Rm X := ⟨rm.hd, rm.un, rm.gd, rm.calm, rm.nd⟩
theorem Rm.tr (rm : Rm X) (pn : List (Addr × Obj)) (xe : Value → Shared → Prop) : Rm (X.tr pn xe).nox := ⟨rm.hd, rm.un, rm.gd, rm.calm, rm.nd⟩
theorem w_isX {e : Expr} {x : Str} {f : ME} {p pt pos : Pos} (hm : X.mg "isinstance" = none) (hc : ∃ C, ClsOf X.K X.mg x C) (he : XE X f e) (hg : Gl X "isinstance" := by rfl) (hx : Gl X x := by rfl) (hd : (x == ("__debug__" : Str)) = false := by decide)
    (h1 : starEach [e, .Name x pt] X.env = (false, eval e X.env) :: starEach [.Name x pt] X.env := by rfl) (hpl : (backTo pos (starEach [.Name x pt] X.env)).any (·.1) = false := by rfl) :
    XE X (mIsX x f) (.Call (.Name "isinstance" p) [e, .Name x pt] [] pos) := by
  obtain ⟨C, hc⟩ := hc
  exact xe_isX hg hm hx hc he hd h1 hpl
theorem w_val {e : Expr} {f : ME} {pos : Pos} (he : XE X f e) (hb : attributeBase e "value" X.env (eval e X.env) = eval e X.env := by rfl) : XE X (mVal f) (.Attribute e "value" pos) := xe_val he hb
theorem w_gval {x : Str} {d : D} {pos : Pos} (g : GVal X.K X.mg x d) (hg : Gl X x := by rfl) (hd : (x == ("__debug__" : Str)) = false := by decide) : XE X (xC d) (.Name x pos) := xe_gval hg g hd
theorem w_try {x n m : Str} (i j : Nat) {body : List Stmt} {f : MX} {np p1 p2 p3 pos pos' : Pos} (hc : ∃ C, ClsOf X.K X.mg x C ∧ PySem.W.subIn X.K (.ref C) (.type "BaseException") = some true)
    (hN : X.N.Nodup) (hb : ∀ (pn : List (Addr × Obj)) (xe : Value → Shared → Prop), PassesOwn (model X.prog X.w) X.A X.env xe → XSX (X.tr pn xe) f body)
    (hi : X.N[i]? = some n := by rfl) (hj : X.N[j]? = some m := by rfl) (hij : (i == j) = false := by decide) (hln : X.env.kindOf n = some .local := by rfl) (hloc : Loc X.env.scope m := by first | exact Or.inl rfl | exact Or.inr rfl)
    (hg : Gl X x := by rfl) (hdb : (x == ("__debug__" : Str)) = false := by decide) (hv : Vis X.env.scope n := by first | exact Or.inl rfl | exact Or.inr (Or.inl rfl) | exact Or.inr (Or.inr rfl)) (hd : (n == ("__debug__" : Str)) = false := by decide) (hcd : (n == ("__classdict__" : Str)) = false := by decide)
    (hs : swapsWith (.Name n p2) (some (.Name m p1)) p3.line X.env = pure false := by rfl) (hfn : X.fn m = true ∨ X.env.scope.names.lookup m = some .local := by first | exact .inl rfl | exact .inr rfl)
    (hex : X.ex = [] := by rfl) (hst : X.stack = X.env :: X.outer := by rfl) (hf : X.env.frame = some X.env.locals := by rfl) :
    XS X (sTry x i j f) (.Try body [.ExceptHandler (some (.Name x np)) (some n) [.Assign [.Name m p1] (.Name n p2) p3] pos'] [] [] pos) := by
  obtain ⟨C, hc, hb'⟩ := hc
  exact xs_try hc hb' hN hb hi hj hij hln hloc hg hdb hv hd hcd hs hfn hex hst hf
theorem w_raise {nm : Str} {a : Expr} {fe : ME} {p pos pos2 : Pos} {k : Nat} (R : RaC X.prog X.K X.mg nm) (hr : Room k X.A) (rm : Rm X.nox) (ha : XE X.nox fe a) (hg : Gl X nm := by rfl)
    (hdb : (nm == ("__debug__" : Str)) = false := by decide) (he : starEach (a :: []) X.env = (false, eval a X.env) :: starEach [] X.env := by rfl) (hpl : (backTo pos (starEach [] X.env)).any (·.1) = false := by rfl) :
    X1 X (xRaise nm fe) (.Raise (some (.Call (.Name nm p) [a] [] pos)) none pos2) := x1_raise R rm.calm hr ha hg hdb he hpl
theorem w_setX (i : Nat) {x : Str} {e : Expr} {f : MR} {pos pos' : Pos} (hN : X.N.Nodup) (he : XR X f e) (hi : X.N[i]? = some x := by rfl) (hx : Loc X.env.scope x := by first | exact Or.inl rfl | exact Or.inr rfl) (hs : swapsWith e (some (.Name x pos')) pos.line X.env = pure false := by rfl)
    (hf : X.fn x = true ∨ X.env.scope.names.lookup x = some .local := by first | exact .inl rfl | exact .inr rfl) : X1 X (xSet i f) (.Assign [.Name x pos'] e pos) := x1_set hN hi hx he hs hf
theorem w_forX (ws : List Nat) {tg iter : Expr} {body : List Stmt} {f : MI} {g : MG} {b : MX} {pos : Pos} (hp : PassesOwn (model X.prog X.w) X.A X.env X.xe) (rm : Rm X.nox) (hi : XI X f tg iter) (hg : XG X ws g tg) (hb : XSX X b body)
    (hs : ∀ x, foldedSetIterable iter X.env x = pure x := by intro _; rfl) : X1 X (xFor f g b) (.For tg iter body [] pos) := x1_for hp rm.calm hi hg hb hs
/-- the class's __init__ -/
def clsInit : Stmt → Stmt
  | .ClassDef _ _ _ body _ _ _ _ _ _ _ => (body.find? fun s => match s with
    | .FunctionDef n .. => n == ("__init__" : Str)
    | _ => false).getD (.Pass ⟨0, 0, 0, 0⟩)
  | s => s
end
end DL
/-! EX7: defs as values: called by a local name. -/
namespace DL
open PySem PySem.Spec PyProof.Rows L2
/-- the module's name x is a def -/
structure FnV (K : PySem.W.Frag) (mg : Str → Option Value) (x : Str) : Prop where
  ex : ∃ f : Addr, mg x = some (.ref f) ∧ FnAt K x f
theorem FnV.g {K : PySem.W.Frag} {mg : Str → Option Value} {x : Str} (v : FnV K mg x) : GVal K mg x (fnD x) :=
  let ⟨f, h1, h2⟩ := v.ex
  ⟨f, h1, fun _ => .fn h2⟩
/-- what a value that is called computes -/
def fnOf (tbl : List (Str × MFX)) : Option (Option Rv) → Option MFX
  | some (some (.dat (.dict [(.none, .str nm)]))) => tbl.lookup nm
  | _ => none
def mCallL (tbl : List (Str × MFX)) (n i : Nat) (fa : MA) : MR := fun ρ cs => (fnOf tbl ρ[i]?).bind fun m => mCallX n m fa ρ cs
section
variable {X : Cx}
/-- one def of a table, of n parameters -/
structure Ent (X : Cx) (k n : Nat) (x : Str) (m : MFX) : Prop where
  ex : ∃ (f : Addr) (fd : FuncData) (ps : List Str), FnX X.prog X.w X.K X.mg X.base k f fd ps m ∧ PySem.W.keepIn X.K (.ref f) = true ∧ Binds X.K fd ps [] ∧ ps.length = n ∧ FnAt X.K x f
theorem ent_of {k j n : Nat} {x : Str} {st : Stmt} {ps : List Str} {m : MFX} (C : CalX X.prog X.w X.K X.mg X.base j x st ps m) (v : FnV X.K X.mg x) (hj : j ≤ k) (hn : ps.length = n) : Ent X k n x m := by
  obtain ⟨f, fd, F, G, hm, hb⟩ := C.ex
  obtain ⟨f', h1, h2⟩ := v.ex
  have e := hm.symm.trans h1
  cases e
  exact ⟨f, fd, ps, G.mono hj, F.kp, hb, hn, h2⟩
def Tbl (X : Cx) (k n : Nat) (tbl : List (Str × MFX)) : Prop := ∀ p ∈ tbl, Ent X k n p.1 p.2
theorem tbl_nil {k n : Nat} : Tbl X k n [] := fun _ h => nomatch h
theorem tbl_cons {k n : Nat} {x : Str} {m : MFX} {tbl : List (Str × MFX)} (h : Ent X k n x m) (t : Tbl X k n tbl) : Tbl X k n ((x, m) :: tbl) := fun p hp => by
  rcases List.mem_cons.mp hp with rfl | hp
  · exact h
  · exact t p hp
theorem lookup_mem {tbl : List (Str × MFX)} {nm : Str} {m : MFX} (h : tbl.lookup nm = some m) : (nm, m) ∈ tbl := by
  induction tbl with
  | nil => cases h
  | cons p r ih =>
    rw [List.lookup_cons] at h
    cases q : nm == p.1 with
    | true =>
      rw [q] at h
      cases h
      have : nm = p.1 := beq_iff_eq.mp q
      rw [this]
      exact List.mem_cons_self ..
    | false =>
      rw [q] at h
      exact List.mem_cons_of_mem _ (ih h)
theorem xr_callL {k n i : Nat} {tbl : List (Str × MFX)} {x : Str} {e : Expr} {es : List Expr} {fa : MA} {p pos : Pos} (T : Tbl X k n tbl) (hr : Room k X.A) (rm : Rm X.nox) (hi : X.N[i]? = some x) (hv : Vis X.env.scope x) (ha : XA X.nox fa (e :: es))
    (hd : (x == ("__debug__" : Str)) = false := by decide) (hcd : (x == ("__classdict__" : Str)) = false := by decide)
    (he : starEach (e :: es) X.env = (false, eval e X.env) :: starEach es X.env := by rfl) (hpl : (backTo pos (starEach es X.env)).any (·.1) = false := by rfl) : XR X (mCallL tbl n i fa) (.Call (.Name x p) (e :: es) [] pos) := fun W tk => by
  refine ⟨fun pins s σ H Q I ⟨ρ, O, cs, y, e0, en, w, pq⟩ => ?_⟩
  obtain ⟨m, h0, e0⟩ := Option.bind_eq_some_iff.mp e0
  obtain ⟨⟨rs, cs1⟩, h1, h2⟩ := Option.bind_eq_some_iff.mp e0
  obtain ⟨hl, em⟩ := ite_none h2
  unfold fnOf at h0
  split at h0
  · rename_i nm hq
    obtain ⟨v, q1, q2⟩ := en.slot i _ hq
    obtain ⟨f, rfl, fat⟩ : ∃ f, v = .ref f ∧ FnAt X.K nm f := by
      cases (show Rp X.K (DL.hd O H) v (.dict [(.none, .str nm)]) from q2) with
      | fn q => exact ⟨_, rfl, q⟩
      | @dct _ _ kvs _ q e r =>
        exfalso
        cases kvs with
        | nil => cases e
        | cons p r' =>
          obtain ⟨k, v⟩ := p
          simp at e
          cases k <;> cases e.1
    obtain ⟨f', fd, ps, F, hk, hb, hn, fat'⟩ := T (nm, m) (lookup_mem h0)
    have ef : f' = f := by
      have := fat'.1.symm.trans fat.1
      cases this
      rfl
    subst ef
    refine wpAny_Call_Name_kw ?_
    refine thn ((pe_var hi hv hd hcd).run pins s σ H (fun v H1 => v = .ref f' ∧ H1 = H) I ⟨_, q1, rfl, rfl⟩) fun u s0 hu => ?_
    obtain ⟨v', H0, I0, rv', e1, e2⟩ := hu
    subst e1 e2
    cases (show u = Value.ref f' from rv')
    have ha' : PA X (e :: es) (tXA X.K fa) := PA.nox' ha
    have hrun := ha'.run pos pins s0 σ H0 (ArgP X.K O H0 cs1 rs) I0 ⟨ρ, O, cs, rs, cs1, h1, en, w, fun vs H' c w' ra => ⟨c, w', ra⟩⟩
    refine PySem.W.callWith_K (h₀ := X.base) I0.ok.mod.kin hk (thn hrun fun us s1 hus => ?_) he hpl
    obtain ⟨vs, H1, I1, rv, c1, w1, ra⟩ := hus
    refine ⟨I1.kIn, ?_⟩
    have hb' := hb s1 us I1.kIn (by rw [List.append_nil, hn, ← hl, ← rv.length, ← ra.length])
    rw [List.append_nil] at hb'
    exact callX_end tk F hr rm.gd rm.nd I1 hb' rv (by rw [hn]; exact hl) w1 ra em (pq.step c1 w1)
  · cases h0
theorem wr_callL {k n : Nat} {tbl : List (Str × MFX)} {x : Str} (i : Nat) {e : Expr} {es : List Expr} {fa : MA} {p pos : Pos} (T : Tbl X k n tbl) (hr : Room k X.A) (rm : Rm X.nox) (ha : XA X.nox fa (e :: es)) (hi : X.N[i]? = some x := by rfl) (hv : Vis X.env.scope x := by first | exact Or.inl rfl | exact Or.inr (Or.inl rfl) | exact Or.inr (Or.inr rfl))
    (hd : (x == ("__debug__" : Str)) = false := by decide) (hcd : (x == ("__classdict__" : Str)) = false := by decide)
    (he : starEach (e :: es) X.env = (false, eval e X.env) :: starEach es X.env := by rfl) (hpl : (backTo pos (starEach es X.env)).any (·.1) = false := by rfl) : XR X (mCallL tbl n i fa) (.Call (.Name x p) (e :: es) [] pos) :=
  xr_callL T hr rm hi hv ha hd hcd he hpl
theorem Rm.w (rm : Rm X) (xe : Value → Shared → Prop) : Rm (X.wish xe).nox := ⟨rm.hd, rm.un, rm.gd, rm.calm, rm.nd⟩
/-- a call that raises nothing, plainly -/
def mPl (f : MR) : ME := fun ρ cs => (f ρ cs).bind fun x => match x with
  | .ok r cs' => some (r, cs')
  | .ex _ _ _ => none
theorem xe_pl {f : MR} {e : Expr} (h : ∀ xe, XR (X.wish xe) f e) : XE X (mPl f) e := by
  refine ⟨fun pins s σ H Q I ⟨ρ, O, cs, r, cs', e0, en, w, p⟩ => ?_⟩
  obtain ⟨y, h1, h2⟩ := Option.bind_eq_some_iff.mp e0
  cases y with
  | ex nm d cs1 => cases h2
  | ok r1 cs1 =>
    cases h2
    have hh := h (fun _ _ => False) (fun _ _ _ _ => False) (fun u s' ⟨_, _, _, _, _, _, _, _, _, _, _, _, _, _, _, _, z⟩ => z.elim)
    refine wpAny_mono (hh.run pins s σ H Q (I.wish _) ⟨ρ, O, cs, _, h1, en, w, p⟩) (fun _ _ ⟨v, H', I', r, q⟩ => ⟨v, H', I'.unwish, r, q⟩) fun _ _ z => False.elim z
end
/-- a def that raises nothing, as one of a table -/
def plX (m : MF) : MFX := fun rs cs => (m rs cs).map fun p => .ok p.1 p.2
theorem FnD.toX {P : Program} {w : World} {K : PySem.W.Frag} {mg : Str → Option Value} {base : Heap} {k : Nat} {f : Addr} {fd : FuncData} {ps : List Str} {m : MF} (F : FnD P w K mg base k f fd ps m) : FnX P w K mg base k f fd ps (plX m) :=
  ⟨fun A outer s H args us vs Q E rs O cs x hg hnd hr e0 hb rv hl wd ar em p => by
    obtain ⟨⟨r, cs'⟩, h1, rfl⟩ := Option.map_eq_some_iff.mp em
    refine codeAny_mono (F.run A outer s H args us vs Q rs O cs r cs' hg hnd hr e0 hb rv hl wd ar h1 p) fun res s' hq => ?_
    cases res with
    | error e => exact hq.elim
    | ok fl =>
      cases fl with
      | ret u => exact hq
      | next => exact hq.elim
      | brk => exact hq.elim
      | cont => exact hq.elim⟩
theorem Cal.toX {P : Program} {w : World} {K : PySem.W.Frag} {mg : Str → Option Value} {base : Heap} {k : Nat} {x : Str} {st : Stmt} {ps : List Str} {m : MF} (C : Cal P w K mg base k x st ps m) : CalX P w K mg base k x st ps (plX m) :=
  let ⟨f, fd, F, G, hm, hb⟩ := C.ex
  ⟨f, fd, F, G.toX, hm, hb⟩
/-! running -/
section
variable {ρ : Rho} {cs : Cs} {QR : RX → Prop} {Q : Rv → Cs → Prop}
@[simp] theorem er_mCallL {tbl : List (Str × MFX)} {n i : Nat} {fa : MA} : Er (mCallL tbl n i fa) ρ cs QR ↔ wpd (fnOf tbl ρ[i]?) fun m => Er (mCallX n m fa) ρ cs QR := by
  unfold Er mCallL
  exact wpd_bind
@[simp] theorem fnOf_fn {tbl : List (Str × MFX)} {nm : Str} : fnOf tbl (some (some (.dat (fnD nm)))) = tbl.lookup nm := rfl
@[simp] theorem ev_mPl {f : MR} : Ev (mPl f) ρ cs Q ↔ Er f ρ cs (OkX Q) := by
  unfold Ev Er mPl
  rw [wpd_bindo]
  refine iff_of_eq (congrArg _ (funext fun x => propext ?_))
  cases x <;> exact Iff.rfl
theorem emx_plX {m : MF} {rs : List Rv} : Emx (plX m) rs cs QR ↔ Em m rs cs fun r cs' => QR (.ok r cs') := by
  unfold Emx Em plX
  exact wpo_mapd
end
end DL
/-! HX: a Hook that also looks at own exception classes, and at whatever is asked of the written part. -/
namespace HX
open PySem PySem.Spec PyProof.Rows L2 He
abbrev FnI : Type := Option (Str × Str × Arguments × FuncBody × Scope × Addr × List Str × Addr)
def fnI (K : PySem.W.Frag) (x : Str) : FnI := match K.lookup (fAd K (x, some "__init__")) with
  | some ⟨_, _, .func fd, _⟩ => some (fd.name, fd.qualname, fd.params, fd.body, fd.scope, fd.globals, fd.closure.map (·.1), fd.builtins)
  | _ => none
/-- the __init__ of the class x -/
structure IniD where
  x : Str
  qual : Str
  params : Arguments
  body : List Stmt
  scope : Scope
  file : Str
def IniD.val (d : IniD) : FnI := some ("__init__", d.qual, d.params, .stmts d.body, d.scope, mainGlobals, ["__class__"], builtinsNs)
def codB (K : PySem.W.Frag) (file qual : Str) : Value → Bool
  | .ref cda => PySem.W.codeIn K (.ref cda) qual && (match K.lookup cda with
    | some ⟨_, _, .fields vs, _⟩ => (match (vs[2]? : Option Value) with
      | some (.str f _) => file == f
      | _ => false)
    | _ => false)
  | _ => false
def cloB (K : PySem.W.Frag) (D : Addr) : List (Str × Addr) → Bool
  | [p] => (match K.lookup p.2 with
    | some ⟨_, _, .cell (some (.ref E)), _⟩ => decide (E = D)
    | _ => false)
  | _ => false
def nonB : Value → Bool
  | .none => true
  | _ => false
def IniD.ok (K : PySem.W.Frag) (d : IniD) : Bool := match K.lookup (fAd K (d.x, some "__init__")) with
  | some ⟨_, _, .func fd, _⟩ => codB K d.file d.qual fd.code && (cloB K (ga K d.x) fd.closure && (nonB fd.defaults && (nonB fd.kwdefaults && (PySem.W.clsIn K (ga K d.x)).isSome)))
  | _ => false
abbrev AlX : Type := Bool × List FnW × List FnI
def obsX (fa : List Fa) (fn : List DefD) (xs : List (PySem.W.Frag → Bool)) (ini : List IniD) (K : PySem.W.Frag) : AlX := (((fa.all fun f => f.ok K) && fn.all fun d => d.ok K) && (xs.all (fun x => x K) && ini.all fun d => d.ok K), fn.map fun d => fnW K d.at_, ini.map fun d => fnI K d.x)
def valX (fn : List DefD) (ini : List IniD) : AlX := (true, fn.map DefD.val, ini.map IniD.val)
def SaysX (fa : List Fa) (fn : List DefD) (xs : List (PySem.W.Frag → Bool)) (ini : List IniD) (K : PySem.W.Frag) : Prop := obsX fa fn xs ini K = valX fn ini
def asX (g : Addr → Option Obj) (n : Nat) : List Addr := asD g n ++ [cStatics]
def obsXG (n : Nat) (fa : List Fa) (fn : List DefD) (xs : List (PySem.W.Frag → Bool)) (ini : List IniD) (g : Addr → Option Obj) : AlX := obsX fa fn xs ini (frG g (asX g n))
def hookX (n : Nat) (fa : List Fa) (fn : List DefD) (xs : List (PySem.W.Frag → Bool)) (ini : List IniD) : PySem.W.Hook where
  α := AlX
  obs := fun s => obsXG n fa fn xs ini s.heap.get?
  val := fun _ => valX fn ini
  says := fun _ h => ∃ K : PySem.W.Frag, K.In h ∧ SaysX fa fn xs ini K
  of := fun _ _ e => ⟨_, frG_in, e⟩
  keeps := fun _ _ _ ⟨K, hK, c⟩ k => ⟨K, PySem.W.Frag.In.keeps hK k, c⟩
theorem obsXG_eq {n : Nat} {fa : List Fa} {fn : List DefD} {xs : List (PySem.W.Frag → Bool)} {ini : List IniD} {g : Addr → Option Obj} {s : Shared} (h : ∀ a, g a = s.heap.get? a) : obsXG n fa fn xs ini g = (hookX n fa fn xs ini).obs s := by
  have e : g = s.heap.get? := funext h
  rw [e] <;> rfl
section
variable {fa : List Fa} {fn : List DefD} {xs : List (PySem.W.Frag → Bool)} {ini : List IniD} {K : PySem.W.Frag}
theorem SaysX.d (c : SaysX fa fn xs ini K) : SaysD fa fn K := by
  have h1 := (ba (show (((fa.all fun f => f.ok K) && fn.all fun d => d.ok K) && (xs.all (fun x => x K) && ini.all fun d => d.ok K)) = true from congrArg (fun z : AlX => z.1) c)).1
  have h2 : fn.map (fun d => fnW K d.at_) = fn.map DefD.val := congrArg (fun z : AlX => z.2.1) c
  show ((fa.all fun f => f.ok K) && fn.all fun d => d.ok K, fn.map fun d => fnW K d.at_) = (true, fn.map DefD.val)
  rw [h1, h2]
theorem SaysX.x (c : SaysX fa fn xs ini K) (i : Nat) {x : PySem.W.Frag → Bool} (h : xs[i]? = some x := by rfl) : x K = true := by
  have h1 := (ba (ba (show (((fa.all fun f => f.ok K) && fn.all fun d => d.ok K) && (xs.all (fun x => x K) && ini.all fun d => d.ok K)) = true from congrArg (fun z : AlX => z.1) c)).2).1
  exact List.all_eq_true.mp h1 x (List.mem_of_getElem? h)
theorem codB_ok {file qual : Str} {v : Value} (h : codB K file qual v = true) : ∃ cda, v = .ref cda ∧ PySem.W.codeIn K (.ref cda) qual = true ∧ ∃ (ccl : Value) (cdd : Option Addr) (vs : Array Value) (ccs : Array (Option Value)) (f : Str) (tf : Tok), K.lookup cda = some ⟨ccl, cdd, .fields vs, ccs⟩ ∧ vs[2]? = some (.str f tf) ∧ (file == f) = true := by
  unfold codB at h
  split at h
  · rename_i cda
    obtain ⟨h1, h2⟩ := ba h
    split at h2
    · rename_i vs sl hl
      split at h2
      · rename_i f tf hv
        exact ⟨_, rfl, h1, _, _, _, _, f, tf, hl, hv, h2⟩
      · cases h2
    · cases h2
  · cases h
theorem cloB_ok {D : Addr} {l : List (Str × Addr)} (h : cloB K D l = true) : ∃ p, l = [p] ∧ ∃ (cl : Value) (cld : Option Addr) (csl : Array (Option Value)), K.lookup p.2 = some ⟨cl, cld, .cell (some (.ref D)), csl⟩ := by
  unfold cloB at h
  split at h
  · rename_i p
    split at h
    · rename_i cl cld E csl hl
      exact ⟨p, rfl, _, _, _, by rw [hl, of_decide_eq_true h]⟩
    · cases h
  · cases h
theorem nonB_ok {v : Value} (h : nonB v = true) : v = .none := by
  cases v <;> first | rfl | cases h
theorem SaysX.txt (c : SaysX fa fn xs ini K) {P : Program} (i : Nat) {d : IniD} (h : ini[i]? = some d) {p1 p2 q1 q2 q3 q4 q5 q6 q7 q8 q9 q10 : Pos} (hp : d.params = SEX.iA p1 p2) (hb : d.body = SEX.iB q1 q2 q3 q4 q5 q6 q7 q8 q9 q10) (hs : d.scope = SEX.iS) (hf : d.file = P.main.file) (hq : (q3.endLine == q5.line) = true)
    (top : (P.main.scope.names.lookup ("super" : Str)).isSome = false) (op : PySem.W.nsIn K cStatics "thirdparty.any" = some none) : SEX.SeTxt P K d.qual (ga K d.x) (fAd K (d.x, some "__init__")) := by
  have h1 := (ba (ba (show (((fa.all fun f => f.ok K) && fn.all fun d => d.ok K) && (xs.all (fun x => x K) && ini.all fun d => d.ok K)) = true from congrArg (fun z : AlX => z.1) c)).2).2
  have h2 := List.all_eq_true.mp h1 d (List.mem_of_getElem? h)
  have e : ini.map (fun d => fnI K d.x) = ini.map IniD.val := congrArg (fun z : AlX => z.2.2) c
  have e2 : (ini.map fun d => fnI K d.x)[i]? = (ini.map IniD.val)[i]? := by rw [e]
  rw [List.getElem?_map, List.getElem?_map, h] at e2
  have e3 : fnI K d.x = d.val := Option.some.inj e2
  unfold IniD.ok at h2
  unfold fnI at e3
  cases q : K.lookup (fAd K (d.x, some "__init__")) with
  | none =>
    rw [q] at h2
    cases h2
  | some o =>
    obtain ⟨oc, od, dt, osl⟩ := o
    rw [q] at h2 e3
    cases dt with
    | func fd =>
      obtain ⟨n1, n2, n3, n4, n5, n6, n7, n8, n9, n10, n11, n12, n13, n14, n15⟩ := fd
      have e4 : (some (n1, n2, n3, n4, n5, n6, n7.map (·.1), n15) : FnI) = (some (("__init__" : Str), d.qual, d.params, .stmts d.body, d.scope, mainGlobals, [("__class__" : Str)], builtinsNs) : FnI) := e3
      simp only [Option.some.injEq, Prod.mk.injEq] at e4
      obtain ⟨g1, g2, g3, g4, g5, g6, g7, g8⟩ := e4
      have h3 : (codB K d.file d.qual n13 && (cloB K (ga K d.x) n7 && (nonB n8 && (nonB n9 && (PySem.W.clsIn K (ga K d.x)).isSome)))) = true := h2
      obtain ⟨k1, k2⟩ := ba h3
      obtain ⟨k3, k4⟩ := ba k2
      obtain ⟨k5, k6⟩ := ba k4
      obtain ⟨k7, k8⟩ := ba k6
      obtain ⟨cda, rfl, hc, hfile⟩ := codB_ok k1
      obtain ⟨p, rfl, hcl⟩ := cloB_ok k3
      obtain ⟨y, cc⟩ := p
      have hy : y = "__class__" := by simpa using g7
      subst hy
      rw [nonB_ok k5, nonB_ok k7] at q
      rw [hp] at g3
      rw [hb] at g4
      rw [hs] at g5
      rw [hf] at hfile
      subst g1 g2 g3 g4 g5 g6 g8
      exact ⟨⟨oc, od, n10, n11, n12, cda, cc, n14, osl, p1, p2, q1, q2, q3, q4, q5, q6, q7, q8, q9, q10, hq, q, hc, hfile, hcl⟩, k8, top, op⟩
    | _ => cases h2
end
/-! ### facts of classes -/
section
variable {K : PySem.W.Frag}
def excB (K : PySem.W.Frag) (D : Addr) : Bool := eqO (PySem.W.findIn K (.ref D) "__getattribute__") (some (some (.builtin "BaseException.__getattribute__"))) && (eqO (PySem.W.findIn K (.ref D) "__getattr__") (some none) && (decide (PySem.W.subIn K (.ref D) (.type "BaseException") = some true) && (PySem.W.hasDictIn K D && (eqO (PySem.W.findIn K (.ref D) "__class__") (some (some (.builtin "object.__class__"))) && (eqO (PySem.W.specialIn K (.builtin "object.__class__") "__get__") (some (some (.builtin "getset_descriptor.__get__"))) && (decide (PySem.W.takesIn K (.builtin "object.__class__") = some true) && decide (PySem.W.mroIn K D (.type "object") = some true)))))))
theorem excB_ok {D : Addr} (h : excB K D = true) : ExcC K D := by
  obtain ⟨h1, h⟩ := ba h
  obtain ⟨h2, h⟩ := ba h
  obtain ⟨h3, h⟩ := ba h
  obtain ⟨h4, h⟩ := ba h
  obtain ⟨h5, h⟩ := ba h
  obtain ⟨h6, h⟩ := ba h
  obtain ⟨h7, h⟩ := ba h
  exact ⟨eqO_ok h1, eqO_ok h2, of_decide_eq_true h3, h4, eqO_ok h5, eqO_ok h6, of_decide_eq_true h7, of_decide_eq_true h⟩
open DL
def cardB (nm : Str) (K : PySem.W.Frag) : Bool := xfB K (ga K nm) && (excB K (ga K nm) && ((PySem.W.clsIn K (ga K nm)).isSome && (eqO (PySem.W.findIn K (.ref (ga K nm)) "value") (some none) && ((CLs K).all (fun q => decide (PySem.W.kitOne K (.ref (ga K nm)) (.ref q.2) = some (subN nm q.1))) &&
  (CLs K).all (fun q => !decide (PySem.W.subIn K (.ref q.2) (.type "BaseException") = some true) || decide (PySem.W.exmOne K (.ref (ga K nm)) (.ref q.2) = some (subN nm q.1)))))))
theorem cardB_ok {nm : Str} (h : cardB nm K = true) : Card K nm (ga K nm) := by
  obtain ⟨h1, h⟩ := ba h
  obtain ⟨h2, h⟩ := ba h
  obtain ⟨h3, h⟩ := ba h
  obtain ⟨h4, h⟩ := ba h
  obtain ⟨h5, h6⟩ := ba h
  refine ⟨⟨xfB_ok h1, excB_ok h2, h3⟩, eqO_ok h4, fun q hq => of_decide_eq_true (List.all_eq_true.mp h5 q hq), fun q hq hb => ?_⟩
  have := List.all_eq_true.mp h6 q hq
  rw [hb] at this
  simpa using this
/-- nm is a class of the module; no plain value is of it -/
def clsB (nm : Str) (K : PySem.W.Frag) : Bool := (CLs K).any (fun q => decide (q.1 = nm) && decide (q.2 = ga K nm)) && (["NoneType", "bool", "int", "str", "list", "tuple", "dict", "function"] : List String).all fun T => decide (PySem.W.kitOne K (.type T) (.ref (ga K nm)) = some false)
theorem clsB_ok {h : Heap} {mg : Str → Option Value} {nm : Str} (X : K.In h) (G : h.Ns mainGlobals mg) (g : (Fa.glo nm).ok K = true) (c : clsB nm K = true) : ClsOf K mg nm (ga K nm) := by
  obtain ⟨h1, h2⟩ := ba c
  obtain ⟨q, hq, h3⟩ := List.any_eq_true.mp h1
  obtain ⟨h4, h5⟩ := ba h3
  have e : q = (nm, ga K nm) := Prod.ext (of_decide_eq_true h4) (of_decide_eq_true h5)
  exact ⟨glo_ok X G g, e ▸ hq, fun T hT => of_decide_eq_true (List.all_eq_true.mp h2 T hT)⟩
/-- x is a def of the module -/
def fnvB (x : Str) (K : PySem.W.Frag) : Bool := eqO (PySem.W.nsIn K mainGlobals x) (some (some (.ref (ga K x)))) && decide (PySem.W.typeIn K (.ref (ga K x)) = some (.type "function"))
theorem fnv_of {h : Heap} {mg : Str → Option Value} {x : Str} (X : K.In h) (G : h.Ns mainGlobals mg) (g : (Fa.glo x).ok K = true) (c : fnvB x K = true) : FnV K mg x := by
  obtain ⟨h1, h2⟩ := ba c
  exact ⟨ga K x, glo_ok X G g, eqO_ok h1, of_decide_eq_true h2⟩
def baseB (nm : Str) (K : PySem.W.Frag) : Bool := decide (PySem.W.subIn K (.ref (ga K nm)) (.type "BaseException") = some true)
theorem baseB_ok {nm : Str} (h : baseB nm K = true) : PySem.W.subIn K (.ref (ga K nm)) (.type "BaseException") = some true := of_decide_eq_true h
/-- a class that is raised -/
def slotB : List (Option Value) → Bool
  | [_, _, _, _, some (.builtin i), _] => decide (i = "ValueError.__new__")
  | _ => false
def shapeB (K : PySem.W.Frag) (C : Addr) : Bool := match K.lookup C with
  | some ⟨.type t, _, .cls ⟨_, _, .ref m :: bm, _, _, true, _, _, _, _, false⟩, sl⟩ => decide (t = "type") && (decide (m = C) && (PySem.HandSPX.refsVE bm && slotB sl.toList))
  | _ => false
theorem slotB_ok {l : List (Option Value)} (h : slotB l = true) : ∃ k0 k1 k2 k3 k5, l = [k0, k1, k2, k3, some (.builtin "ValueError.__new__"), k5] := by
  unfold slotB at h
  split at h
  · rename_i k0 k1 k2 k3 i k5
    rw [of_decide_eq_true h]
    exact ⟨_, _, _, _, _, rfl⟩
  · cases h
theorem shapeB_ok {C : Addr} (h : shapeB K C = true) : ∃ nm q N bs bm sn sub ab col dd k0 k1 k2 k3 k5, K.lookup C = some (excClassObj nm q C N bs bm true sn sub ab col dd k0 k1 k2 k3 k5 "ValueError.__new__") ∧ PySem.HandSPX.refsVE bm = true := by
  unfold shapeB at h
  split at h
  · rename_i t dd nm bs m bm N q sn sub ab col sl hl
    obtain ⟨h1, h2⟩ := ba h
    obtain ⟨h3, h4⟩ := ba h2
    obtain ⟨h5, h6⟩ := ba h4
    have e1 := of_decide_eq_true h1
    have e2 := of_decide_eq_true h3
    subst e1 e2
    obtain ⟨k0, k1, k2, k3, k5, e3⟩ := slotB_ok h6
    refine ⟨nm, q, N, bs, bm, sn, sub, ab, col, dd, k0, k1, k2, k3, k5, ?_, h5⟩
    rw [hl]
    have e4 : sl = #[k0, k1, k2, k3, some (.builtin "ValueError.__new__"), k5] := by
      apply Array.toList_inj.mp
      rw [e3]
    rw [e4]
  · cases h
def raB (top nm : Str) (K : PySem.W.Frag) : Bool := shapeB K (ga K nm) && (eqO (PySem.W.findIn K (.ref (ga K nm)) "__setattr__") (some (some (.builtin "object.__setattr__"))) && (eqO (PySem.W.findIn K (.ref (ga K nm)) "value") (some none) &&
  (eqO (PySem.W.findIn K (.ref (ga K nm)) "__init__") (some (some (.ref (fAd K (top, some "__init__"))))) && (decide (PySem.W.typeIn K (.ref (fAd K (top, some "__init__"))) = some (.type "function")) && (PySem.W.keepIn K (.ref (ga K nm)) && (decide (PySem.W.subIn K (.ref (ga K nm)) (.type "BaseException") = some true) &&
  (decide (PySem.W.subIn K (.ref (ga K nm)) (.type "ValueError") = some true) && (decide (PySem.W.typeIn K (.ref (ga K nm)) = some (.type "type")) && (decide (PySem.W.mroIn K (ga K nm) (.ref (ga K top)) = some true) && (eqO (PySem.W.ks_superIn K (ga K nm) (ga K top) "__init__") (some (some (.builtin "ValueError.__init__"))) && cardB nm K))))))))))
theorem raB_ok {top nm : Str} (h : raB top nm K = true) : SEX.SeCls K (ga K top) (fAd K (top, some "__init__")) (ga K nm) ∧ Card K nm (ga K nm) := by
  obtain ⟨h1, h⟩ := ba h
  obtain ⟨h2, h⟩ := ba h
  obtain ⟨h3, h⟩ := ba h
  obtain ⟨h4, h⟩ := ba h
  obtain ⟨h5, h⟩ := ba h
  obtain ⟨h6, h⟩ := ba h
  obtain ⟨h7, h⟩ := ba h
  obtain ⟨h8, h⟩ := ba h
  obtain ⟨h9, h⟩ := ba h
  obtain ⟨h10, h⟩ := ba h
  obtain ⟨h11, h12⟩ := ba h
  exact ⟨⟨shapeB_ok h1, eqO_ok h2, eqO_ok h3, eqO_ok h4, of_decide_eq_true h5, h6, of_decide_eq_true h7, of_decide_eq_true h8, of_decide_eq_true h9, of_decide_eq_true h10, eqO_ok h11⟩, cardB_ok h12⟩
theorem raC_of {P : Program} {h : Heap} {mg : Str → Option Value} {top nm qual : Str} (X : K.In h) (G : h.Ns mainGlobals mg) (T : SEX.SeTxt P K qual (ga K top) (fAd K (top, some "__init__"))) (hs : mg "super" = none) (g : (Fa.glo nm).ok K = true) (c : raB top nm K = true) : RaC P K mg nm :=
  ⟨ga K nm, ga K top, fAd K (top, some "__init__"), qual, T, (raB_ok c).1, glo_ok X G g, hs, (raB_ok c).2⟩
def opB (K : PySem.W.Frag) : Bool := eqO (PySem.W.nsIn K cStatics "thirdparty.any") (some none)
theorem opB_ok (h : opB K = true) : PySem.W.nsIn K cStatics "thirdparty.any" = some none := eqO_ok h
/-- a constant tuple of plain values -/
theorem gval_of {h : Heap} {mg : Str → Option Value} {x : Str} {vs : List Dv} {ds : List D} (X : K.In h) (G : h.Ns mainGlobals mg) (g : (Fa.glo x).ok K = true) (c : tupB K x vs = true) (r : ∀ H, RpAll K H (vs.map (Dv.v K)) ds) : GVal K mg x (.tuple ds) :=
  ⟨ga K x, glo_ok X G g, fun H => .tup (tupB_ok c H) (r H)⟩
end
end HX
namespace My
open PySem PySem.Spec PyProof.Rows L2 DL
def b__law_hash : MS :=
  (sSeq (sSet 2 (mB dMod (mCall dInt (aCons (mB dAdd (mB dAdd (mB dAdd (mB dMul (xVar 0) (xC (.int 1140671))) (mB dMul (mB dMul (xC (.int 27644437)) (xVar 1)) (xVar 1))) (mB dMul (xC (.int 131)) (xVar 1))) (xC (.int 19))) aNil)) (xC (.int 2147483629))))
  (sSeq (sSet 2 (mB dMod (mCall dInt (aCons (mB dAdd (mB dAdd (mB dMul (xVar 2) (xVar 2)) (mB dMul (xC (.int 62089)) (xVar 1))) (xC (.int 32416187))) aNil)) (xC (.int 2147483587))))
  (sRet (mB dMod (mCall dInt (aCons (mB dMul (xVar 2) (xC (.int 48271))) aNil)) (xC (.int 2147483647))))))
def m__law_hash : MF := fnM 3 b__law_hash
def b__law_cell : MS :=
  (sSeq (sIf (mTB (mB dLt (xVar 1) (mCall dLen (aCons (xVar 0) aNil)))) (sRet (mB dIx (xVar 0) (xVar 1))) sNil)
  (sRet (mB dMod (mCall dSum (aCons (mSl (xVar 0) oNone (oSome (xC (.int 1)))) aNil)) (xC (.int 1000003)))))
def m__law_cell : MF := fnM 2 b__law_cell
def b__law_generator : MS :=
  (sSeq (sSet 2 (mCallF 2 m__law_cell (aCons (xVar 0) (aCons (xVar 1) aNil))))
  (sRet (xLst (aCons (mB dMod (mCall dInt (aCons (mCall dMax2 (aCons (mB dSub (xVar 2) (mB dPow (xC (.int 10)) (xC (.int 18)))) (aCons (xC (.int 0)) aNil))) aNil)) (mB dPow (mB dPow (xC (.int 10)) (xC (.int 60))) (xC (.int 10)))) (aCons (mB dMod (mCall dInt (aCons (xVar 2) aNil)) (xC (.int 2147483647))) (aCons (mB dMul (xC (.int 1000)) (xVar 1)) aNil))))))
def m__law_generator : MF := fnM 3 b__law_generator
def b__law_random : MS :=
  (sSeq (sIf (mTB (mB dGt (mB dIx (xVar 0) (xC (.int 0))) (xC (.int 0)))) (sSeq (sSet 2 (mB dMod (mCall dInt (aCons (mB dIx (xVar 0) (xC (.int 0))) aNil)) (xVar 1)))
  (sSeq (sPut 0 (xC (.int 0)) (mB dDiv (mB dIx (xVar 0) (xC (.int 0))) (xVar 1)))
  (sRet (xVar 2)))) sNil)
  (sSeq (sSet 2 (xC (.int 0)))
  (sSeq (sFor (iRg1 (aCons (mB dAdd (xC (.int 1)) (mB dDiv (mU dBits (xVar 1)) (xC (.int 30)))) aNil)) (gNm 3) (sSeq (sPut 0 (xC (.int 2)) (mB dAdd (mB dIx (xVar 0) (xC (.int 2))) (xC (.int 1))))
  (sSet 2 (mB dAdd (mB dMul (xVar 2) (xC (.int 2147483587))) (mCallF 2 m__law_hash (aCons (mB dIx (xVar 0) (xC (.int 1))) (aCons (mB dIx (xVar 0) (xC (.int 2))) aNil)))))))
  (sRet (mB dMod (mCall dInt (aCons (xVar 2) aNil)) (xVar 1))))))
def m__law_random : MF := fnM 4 b__law_random
def b__law_pick : MS :=
  (sRet (mB dIx (xVar 1) (mCallF 2 m__law_random (aCons (xVar 0) (aCons (mCall dLen (aCons (xVar 1) aNil)) aNil)))))
def m__law_pick : MF := fnM 2 b__law_pick
end My
namespace My
open PySem PySem.Spec PyProof.Rows L2 DL
theorem log2_le {n a : Nat} (h : n < 2 ^ a) : n.log2 ≤ a := by
  by_cases h0 : n = 0
  · subst h0; exact Nat.zero_le _
  · exact Nat.le_of_lt ((Nat.log2_lt h0).mpr h)
theorem cml {i j : Int} (a b : Nat) (h1 : i.natAbs < 2 ^ a) (h2 : j.natAbs < 2 ^ b) (h : a + b < 100000000 := by decide) : CMl i j := by
  have := log2_le h1
  have := log2_le h2
  show _ + _ < _
  omega
theorem lg_mul {i j : Int} {a b : Nat} (h1 : i.natAbs < 2 ^ a) (h2 : j.natAbs < 2 ^ b) : (i * j).natAbs < 2 ^ (a + b) := by
  rw [Int.natAbs_mul, Nat.pow_add]
  exact Nat.mul_lt_mul'' h1 h2
theorem fmod_b {x m : Int} (hm : 0 < m) : 0 ≤ x.fmod m ∧ x.fmod m < m := ⟨Int.fmod_nonneg_of_pos x hm, Int.fmod_lt_of_pos x hm⟩
theorem abs_lt {x : Int} {a : Nat} (h0 : 0 ≤ x) (h1 : x < 2 ^ a) : x.natAbs < 2 ^ a := by
  have e : ((2 ^ a : Nat) : Int) = (2 : Int) ^ a := by simp
  omega
theorem hash_em {s i : Int} {cs : Cs} {Q : Rv → Cs → Prop} (hs : s.natAbs < 2 ^ 100) (hi : i.natAbs < 2 ^ 100) (h : ∀ z : Int, 0 ≤ z → z < 2147483647 → Q (di z) cs) : Em m__law_hash [.dat (.int s), .dat (.int i)] cs Q := by
  unfold m__law_hash
  rw [em_fnM]
  simp [b__law_hash, dMul, dAdd, dMod, dI, dInt]
  generalize e1 : (s * 1140671 + 27644437 * i * i + 131 * i + 19).fmod 2147483629 = x
  have b1 := fmod_b (x := s * 1140671 + 27644437 * i * i + 131 * i + 19) (m := 2147483629) (by decide)
  rw [e1] at b1
  have x1 : x.natAbs < 2 ^ 32 := abs_lt b1.1 (by omega)
  generalize e2 : (x * x + 62089 * i + 32416187).fmod 2147483587 = y
  have b2 := fmod_b (x := x * x + 62089 * i + 32416187) (m := 2147483587) (by decide)
  rw [e2] at b2
  have y1 : y.natAbs < 2 ^ 32 := abs_lt b2.1 (by omega)
  have b3 := fmod_b (x := y * 48271) (m := 2147483647) (by decide)
  exact ⟨cml 100 32 hs (by decide), cml 32 100 (by decide) hi, cml 132 100 (lg_mul (a := 32) (b := 100) (by decide) hi) hi, cml 32 100 (by decide) hi, cml 32 32 x1 x1, cml 32 100 (by decide) hi, cml 32 32 y1 (by decide), h _ b3.1 b3.2⟩
/-- a generator's cell -/
structure Gs (b : Int) (c : List D) : Prop where
  ex : ∃ g0 g1 g2 : Int, c = [.int g0, .int g1, .int g2] ∧ 0 ≤ g0 ∧ g0 < 10 ^ 600 ∧ 0 ≤ g1 ∧ g1 < 2147483647 ∧ 0 ≤ g2 ∧ g2 ≤ b
theorem Gs.mono {b b' : Int} {c : List D} (g : Gs b c) (h : b ≤ b') : Gs b' c := by
  obtain ⟨g0, g1, g2, e, h0, h1, h2, h3, h4, h5⟩ := g.ex
  exact ⟨g0, g1, g2, e, h0, h1, h2, h3, h4, by omega⟩
theorem ix_own {c : List D} {k : Nat} {cs : Cs} {i : Int} {Q : Rv → Cs → Prop} (h : cs[k]? = some (some c)) : O2 dIx (.own k) (.dat (.int i)) cs Q ↔ wpd (dIx (.list c) (.int i)) fun z => Q z cs := o2_od h
theorem at3_0 {α : Type} {a b c : α} : atI [a, b, c] 0 = some a := rfl
theorem at3_1 {α : Type} {a b c : α} : atI [a, b, c] 1 = some b := rfl
theorem at3_2 {α : Type} {a b c : α} : atI [a, b, c] 2 = some c := rfl
theorem ixN_nat {n : Nat} {i : Int} (h0 : 0 ≤ i) (h1 : i < n) : ixN n i = some i.toNat := by
  unfold ixN
  rw [if_pos h0, if_pos h1]
theorem atI_nat {α : Type} {xs : List α} {i : Int} (h0 : 0 ≤ i) (h1 : i < xs.length) : atI xs i = some (xs[i.toNat]'(by omega)) := by
  unfold atI
  rw [ixN_nat h0 h1]
  show xs[i.toNat]? = _
  rw [List.getElem?_eq_getElem]
theorem random_em {k : Nat} {n b : Int} {cs : Cs} {c : List D} {Q : Rv → Cs → Prop} (hc : cs[k]? = some (some c)) (hg : Gs b c) (hb : b ≤ 10 ^ 20) (hn : 0 < n) (hn2 : n < 2 ^ 2900) (h : ∀ (r : Int) (c' : List D), 0 ≤ r → r < n → Gs (b + 100) c' → Q (di r) (cs.set k (some c'))) : Em m__law_random [.own k, .dat (.int n)] cs Q := by
  obtain ⟨g0, g1, g2, rfl, h0, h1, h2, h3, h4, h5⟩ := hg.ex
  have hk : k < cs.length := (List.getElem?_eq_some_iff.mp hc).1
  unfold m__law_random
  rw [em_fnM]
  simp [b__law_random, ix_own hc, dIx, at3_0, dGt, dCmp]
  by_cases hg0 : 0 < g0
  · rw [if_pos hg0]
    have dv : CDv g0 n := ⟨by omega, by have := log2_le (abs_lt (Int.le_of_lt hn) hn2); omega⟩
    have q0 : 0 ≤ g0.fdiv n := Int.fdiv_nonneg h0 (Int.le_of_lt hn)
    have q1 : g0.fdiv n ≤ g0 := by
      rw [Int.fdiv_eq_ediv_of_nonneg g0 (Int.le_of_lt hn)]
      exact Int.ediv_le_self n h0
    have fb := fmod_b (x := g0) hn
    have e3 : ixN 3 0 = some 0 := rfl
    simp [dInt, dMod, dI, ix_own hc, dIx, at3_0, dDiv, hc, dv, e3, show n ≠ 0 by omega, List.take_of_length_le]
    exact h _ _ fb.1 fb.2 ⟨g0.fdiv n, g1, g2, rfl, q0, by omega, h2, h3, h4, by omega⟩
  · rw [if_neg hg0]
    have bz : Builtin.Int.intBits n ≤ 2900 := PyProof.Rows.intBits_le (abs_lt (Int.le_of_lt hn) hn2)
    have dv : ∀ x : Int, CDv x 30 := fun x => ⟨by decide, by decide⟩
    have eq : ((Builtin.Int.intBits n : Int)).fdiv 30 = ((Builtin.Int.intBits n / 30 : Nat) : Int) := by
      rw [Int.fdiv_eq_ediv_of_nonneg _ (by decide)]
      rfl
    generalize ht : Builtin.Int.intBits n / 30 = t at eq
    have ht2 : t ≤ 97 := by omega
    simp [dBits, dDiv, dI, dv, dAdd, eq]
    refine ⟨by constructor <;> omega, ?_⟩
    have ej : ((1 : Int) + (t : Int)).toNat = t + 1 := by omega
    rw [ej]
    refine el_inv (fun i ρ cs1 => ∃ (dr : Int) (x3 : Option Rv), ρ = [some (Rv.own k), some (Rv.dat (PyData.int n)), some (Rv.dat (PyData.int dr)), x3] ∧ cs1 = cs.set k (some [.int g0, .int g1, .int (g2 + i)]) ∧ 0 ≤ dr ∧ dr < 2 ^ (32 * (i + 1))) (k := 0) ⟨0, none, rfl, ?_, Int.le_refl _, by decide⟩ ?_ ?_
    · apply List.ext_getElem?
      intro j
      by_cases hj : k = j
      · subst hj
        rw [List.getElem?_set_self hk, hc]
        simp
      · rw [List.getElem?_set_ne hj]
    · rintro i d ρ cs1 hi ⟨dr, x3, rfl, rfl, d0, d1⟩
      simp only [Nat.zero_add] at d1 ⊢
      have hi2 : i < t + 1 := by
        have := (List.getElem?_eq_some_iff.mp hi).1
        simpa [rngD] using this
      have hcs : ∀ g : List D, (cs.set k (some g))[k]? = some (some g) := fun g => List.getElem?_set_self hk
      have e2 : ixN 3 2 = some 2 := rfl
      have ga : (g2 + (i : Int) + 1).natAbs < 2 ^ 100 := abs_lt (by omega) (by omega)
      simp [ix_own (hcs _), dIx, at3_1, at3_2, dAdd, hcs, e2, dMul]
      have P : (2 : Int) ^ (32 * (i + 1 + 1)) = 2 ^ (32 * (i + 1)) * 4294967296 := by
        rw [show 32 * (i + 1 + 1) = 32 * (i + 1) + 32 by omega, Int.pow_add]
        rfl
      refine ⟨cml (32 * (i + 1)) 32 (abs_lt d0 d1) (by decide) (by omega), ?_⟩
      refine hash_em (abs_lt h2 (by omega)) ga fun z z0 z1 => ?_
      simp [dAdd]
      refine ⟨by rw [Int.add_assoc], by omega, ?_⟩
      rw [P]
      generalize (2 : Int) ^ (32 * (i + 1)) = p at d1 ⊢
      omega
    · rintro ρ cs1 ⟨dr, x3, rfl, rfl, d0, d1⟩
      have fb := fmod_b (x := dr) hn
      simp [dInt, dMod, dI, show n ≠ 0 by omega]
      rw [List.take_of_length_le (by simp)]
      refine h _ _ fb.1 fb.2 ⟨g0, g1, _, rfl, h0, h1, h2, h3, ?_, ?_⟩
      · simp [rngD]; omega
      · simp [rngD]; omega
theorem pick_em {k : Nat} {b : Int} {cs : Cs} {c ds : List D} {Q : Rv → Cs → Prop} (hc : cs[k]? = some (some c)) (hg : Gs b c) (hb : b ≤ 10 ^ 20) (hn : ds ≠ []) (hn2 : ds.length < 10 ^ 9) (h : ∀ (d : D) (c' : List D), d ∈ ds → Gs (b + 100) c' → Q (.dat d) (cs.set k (some c'))) : Em m__law_pick [.own k, .dat (.list ds)] cs Q := by
  have hl : 0 < ds.length := List.length_pos_iff.mpr hn
  unfold m__law_pick
  rw [em_fnM]
  simp [b__law_pick, dLen]
  refine random_em hc hg hb (by omega) (Int.lt_trans (show (ds.length : Int) < 10 ^ 9 by omega) (by decide)) fun r c' r0 r1 hg' => ?_
  simp [dIx, atI_nat r0 r1]
  rw [List.take_of_length_le (by simp)]
  exact h _ _ (List.getElem_mem _) hg'
theorem pickS_em {k : Nat} {b : Int} {cs : Cs} {c : List D} {x : Str} {Q : Rv → Cs → Prop} (hc : cs[k]? = some (some c)) (hg : Gs b c) (hb : b ≤ 10 ^ 20) (hn : 0 < x.length) (hn2 : x.length < 10 ^ 9) (h : ∀ (y : Nat) (c' : List D), y ∈ x.cps.toList → Gs (b + 100) c' → Q (.dat (.str ⟨#[y]⟩)) (cs.set k (some c'))) : Em m__law_pick [.own k, .dat (.str x)] cs Q := by
  unfold m__law_pick
  rw [em_fnM]
  simp [b__law_pick, dLen]
  refine random_em hc hg hb (by omega) (Int.lt_trans (show (x.length : Int) < 10 ^ 9 by omega) (by decide)) fun r c' r0 r1 hg' => ?_
  have r1' : r < (x.cps.toList.length : Int) := by rw [Array.length_toList]; exact r1
  simp only [o2_dd, dIx, atI_nat r0 r1', wpd_some, Option.map_some, ret_dat, fin_dat]
  rw [List.take_of_length_le (by simp)]
  exact h _ _ (List.getElem_mem _) hg'
theorem cell_em {i : Int} {ns : List Int} {cs : Cs} {Q : Rv → Cs → Prop} (hi : 0 ≤ i) (hb : ∀ z ∈ ns, Builtin.Int.intBits z ≤ 1048576) (hl : ns.length ≤ 1000) (h : ∀ z : Int, Q (di z) cs) : Em m__law_cell [.dat (.list (ns.map .int)), .dat (.int i)] cs Q := by
  unfold m__law_cell
  rw [em_fnM]
  simp [b__law_cell, dLen, dLt, dCmp]
  by_cases hlt : i < (ns.length : Int)
  · rw [if_pos hlt]
    have hlt' : i < ((ns.map PyData.int).length : Int) := by simpa using hlt
    simp only [o2_dd, dIx, atI_nat hi hlt', wpd_some, Option.map_some, ret_dat, fin_dat, List.getElem_map, nx_rt, List.take_length]
    exact h _
  · rw [if_neg hlt]
    have ic : ∀ l : List Int, intsD (l.map PyData.int) = some l := fun l => by
      induction l with
      | nil => rfl
      | cons a l ih =>
        show (intsD (l.map PyData.int)).map _ = _
        rw [ih]; rfl
    have ec : DL.cutD (ns.map PyData.int) none (some 1) = ((ns.take 1).map PyData.int) := by
      cases ns with
      | nil => rfl
      | cons a l =>
        unfold DL.cutD HT.sIx
        rw [List.length_map]
        simp
    have ic2 : intsD (List.take 1 (ns.map PyData.int)) = some (ns.take 1) := by rw [← List.map_take, ic]
    simp [dSl, ec, dSum, dMod, dI, ic2]
    exact h _
theorem generator_em {i : Int} {ns : List Int} {cs : Cs} {Q : Rv → Cs → Prop} (hi : 0 ≤ i) (hi2 : i ≤ 10 ^ 9) (hb : ∀ z ∈ ns, Builtin.Int.intBits z ≤ 1048576) (hl : ns.length ≤ 1000) (h : ∀ c : List D, Gs (1000 * i) c → Q (.fr c) cs) : Em m__law_generator [.dat (.list (ns.map .int)), .dat (.int i)] cs Q := by
  unfold m__law_generator
  rw [em_fnM]
  simp [b__law_generator]
  refine cell_em hi hb hl fun z => ?_
  simp [dInt, dMax2, dMod, dSub, dPow, dI, dMul]
  refine ⟨by decide, by decide, by decide, cml 10 30 (by decide) (abs_lt hi (by omega)), by rw [sizeLine_eq]; decide, ?_⟩
  generalize (if z - 1000000000000000000 < 0 then 0 else z - 1000000000000000000) = y
  have f1 := fmod_b (x := y) (m := 10 ^ 600) (by decide)
  have f2 := fmod_b (x := z) (m := 2147483647) (by decide)
  exact h _ ⟨_, _, _, rfl, f1.1, f1.2, f2.1, f2.2, by omega, by omega⟩
end My
namespace My
open PySem PySem.Spec PyProof.Rows L2 DL
def b_is_whole : MS :=
  (sRet (mAnd (mU (dIsi "int") (xVar 0)) (mU dNot (mU (dIsi "bool") (xVar 0)))))
def m_is_whole : MF := fnM 1 b_is_whole
noncomputable def b_common_of : MS :=
  (sSeq (sParO 0 1 (aDat (mCall dAbs (aCons (xVar 0) aNil)) (aDat (mCall dAbs (aCons (xVar 1) aNil)) aNil)))
  (sSeq (sWh (mTB (mB dGt (xVar 1) (xC (.int 0)))) (sParO 0 1 (aDat (xVar 1) (aDat (mB dMod (xVar 0) (xVar 1)) aNil))))
  (sRet (xVar 0))))
noncomputable def m_common_of : MF := fnM 2 b_common_of
noncomputable def b_is_fraction : MS :=
  (sSeq (sIf (mTOr (mTNot (mTru (mU (dIsi "tuple") (xVar 0)))) (mTOr (mTB (mB dNe (mCall dLen (aCons (xVar 0) aNil)) (xC (.int 2)))) (mTOr (mTNot (mTru (mCallF 1 m_is_whole (aCons (mB dIx (xVar 0) (xC (.int 0))) aNil)))) (mTNot (mTru (mCallF 1 m_is_whole (aCons (mB dIx (xVar 0) (xC (.int 1))) aNil))))))) (sRet (xC (.bool false))) sNil)
  (sRet (mAnd (mB dGe (mB dIx (xVar 0) (xC (.int 1))) (xC (.int 1))) (mB dEq (mCallF 2 m_common_of (aCons (mB dIx (xVar 0) (xC (.int 0))) (aCons (mB dIx (xVar 0) (xC (.int 1))) aNil))) (xC (.int 1))))))
noncomputable def m_is_fraction : MF := fnM 1 b_is_fraction
noncomputable def b_lowest_of : MS :=
  (sSeq (sSet 2 (mCallF 2 m_common_of (aCons (xVar 0) (aCons (xVar 1) aNil))))
  (sSeq (sIf (mTB (mB dLt (xVar 1) (xC (.int 0)))) (sSet 2 (mB dSub (xC (.int 0)) (xVar 2))) sNil)
  (sRet (xTup (aCons (mB dDiv (xVar 0) (xVar 2)) (aCons (mB dDiv (xVar 1) (xVar 2)) aNil))))))
noncomputable def m_lowest_of : MF := fnM 3 b_lowest_of
noncomputable def b_plus_of : MS :=
  (sRet (mCallF 2 m_lowest_of (aCons (mB dAdd (mB dMul (mB dIx (xVar 0) (xC (.int 0))) (mB dIx (xVar 1) (xC (.int 1)))) (mB dMul (mB dIx (xVar 1) (xC (.int 0))) (mB dIx (xVar 0) (xC (.int 1))))) (aCons (mB dMul (mB dIx (xVar 0) (xC (.int 1))) (mB dIx (xVar 1) (xC (.int 1)))) aNil))))
noncomputable def m_plus_of : MF := fnM 2 b_plus_of
noncomputable def b_times_of : MS :=
  (sRet (mCallF 2 m_lowest_of (aCons (mB dMul (mB dIx (xVar 0) (xC (.int 0))) (mB dIx (xVar 1) (xC (.int 0)))) (aCons (mB dMul (mB dIx (xVar 0) (xC (.int 1))) (mB dIx (xVar 1) (xC (.int 1)))) aNil))))
noncomputable def m_times_of : MF := fnM 2 b_times_of
end My
namespace My
open PySem PySem.Spec PyProof.Rows L2 DL
/-! fractions: what the shared defs compute -/
theorem fem_eq {m : MF} {rs : List Rv} {cs cs' : Cs} {z : Rv} (h : Em m rs cs fun r c => r = z ∧ c = cs') : m rs cs = some (z, cs') := by
  obtain ⟨a, b, e, rfl, rfl⟩ := wpo_iff.mp h
  exact e
theorem fem_of {m : MF} {rs : List Rv} {cs cs' : Cs} {z : Rv} {Q : Rv → Cs → Prop} (e : m rs cs = some (z, cs')) (h : Q z cs') : Em m rs cs Q := wpo_of e h
theorem fisi_tuple (d : D) : dIsi "tuple" d = some (db (match d with | .tuple _ => true | _ => false)) := by
  cases d with
  | dict kvs =>
    show (kitB (if isFn kvs = true then "function" else "dict") "tuple").map db = _
    split <;> rfl
  | _ => rfl
theorem fisi_int (d : D) : dIsi "int" d = some (db (match d with | .int _ => true | .bool _ => true | _ => false)) := by
  cases d with
  | dict kvs =>
    show (kitB (if isFn kvs = true then "function" else "dict") "int").map db = _
    split <;> rfl
  | _ => rfl
theorem fisi_bool (d : D) : dIsi "bool" d = some (db (match d with | .bool _ => true | _ => false)) := by
  cases d with
  | dict kvs =>
    show (kitB (if isFn kvs = true then "function" else "dict") "bool").map db = _
    split <;> rfl
  | _ => rfl
theorem fdEq_int {i j : Int} : dEq (.int i) (.int j) = some (db (i == j)) := by
  unfold dEq
  rw [if_pos ⟨rfl, rfl, by show min 0 0 ≤ 100; decide⟩]
  rfl
theorem fdNe_int {i j : Int} : dNe (.int i) (.int j) = some (db (!(i == j))) := by
  unfold dNe
  rw [if_pos ⟨rfl, rfl, by show min 0 0 ≤ 100; decide⟩]
  rfl
theorem dGt_int {i j : Int} : dGt (.int i) (.int j) = some (db (decide (j < i))) := rfl
theorem dLt_int {i j : Int} : dLt (.int i) (.int j) = some (db (decide (i < j))) := rfl
theorem dGe_int {i j : Int} : dGe (.int i) (.int j) = some (db (decide (j ≤ i))) := rfl
theorem dSub_int {i j : Int} : dSub (.int i) (.int j) = some (di (i - j)) := rfl
theorem dAdd_int {i j : Int} : dAdd (.int i) (.int j) = some (di (i + j)) := rfl
theorem dMul_int {i j : Int} (h : CMl i j) : dMul (.int i) (.int j) = some (di (i * j)) := if_pos h
theorem dDiv_int {i j : Int} (h : CDv i j) : dDiv (.int i) (.int j) = some (di (i.fdiv j)) := if_pos h
theorem dMod_int {i j : Int} (h : j ≠ 0) : dMod (.int i) (.int j) = some (di (i.fmod j)) := if_pos h
theorem dAbs_int {i : Int} : dAbs [.int i] = some (di (i.natAbs : Int)) := by
  show some (di (if i < 0 then -i else i)) = _
  congr 3
  split <;> omega
def wholeB : D → Bool
  | .int _ => true
  | _ => false
theorem is_whole_eq {d : D} {cs : Cs} : m_is_whole [.dat d] cs = some (db (wholeB d), cs) := by
  refine fem_eq ?_
  unfold m_is_whole
  rw [em_fnM]
  unfold b_is_whole
  cases d <;> simp [fisi_int, fisi_bool, dNot, wholeB]
/-- the measure of the Euclid loop -/
def muE (ρ : Rho) (_ : Cs) : Nat := match ρ with
  | [_, some (.dat (.int y))] => y.toNat
  | _ => 0
theorem common_eq {a b : Int} {cs : Cs} : m_common_of [.dat (.int a), .dat (.int b)] cs = some (di (Int.gcd a b), cs) := by
  refine fem_eq ?_
  unfold m_common_of
  rw [em_fnM]
  unfold b_common_of
  simp [dAbs_int]
  refine es_sWh (fun ρ c => ∃ x y : Nat, ρ = [some (di x), some (di y)] ∧ c = cs ∧ Nat.gcd x y = Int.gcd a b) muE ⟨a.natAbs, b.natAbs, rfl, rfl, rfl⟩ ?_
  rintro ρ c ⟨x, y, rfl, rfl, h⟩
  by_cases hy : 0 < y
  · have hy' : (y : Int) ≠ 0 := by omega
    have e : (x : Int).fmod y = ((x % y : Nat) : Int) := by rw [Int.fmod_eq_emod_of_nonneg _ (by omega)]; rfl
    simp [dGt_int, hy, dMod_int hy', e, muE]
    refine ⟨⟨y, x % y, ⟨rfl, by omega⟩, ?_⟩, ?_⟩
    · rw [← h, Nat.gcd_comm x y, Nat.gcd_rec y x, Nat.gcd_comm]
    · have := Nat.mod_lt x hy
      omega
  · have : y = 0 := by omega
    subst this
    simp [dGt_int]
    rw [← h]
    simp
/-- the parts of a / b in lowest terms -/
def nfA (a b : Int) : Int := (b.sign * a) / (Int.gcd a b : Int)
def nfB (a b : Int) : Int := (b.natAbs : Int) / (Int.gcd a b : Int)
theorem gcd_pos {a b : Int} (h : b ≠ 0) : 0 < Int.gcd a b := Nat.gcd_pos_of_pos_right _ (Int.natAbs_pos.mpr h)
theorem gcd_le {a b : Int} (h : b ≠ 0) : Int.gcd a b ≤ b.natAbs := Nat.gcd_le_right _ (Int.natAbs_pos.mpr h)
theorem fdiv_pos {a g : Int} (h : 0 < g) : a.fdiv g = a / g := Int.fdiv_eq_ediv_of_nonneg a (Int.le_of_lt h)
theorem fdiv_neg' {a g : Int} (h : 0 < g) (hd : g ∣ a) : a.fdiv (-g) = (-a) / g := by
  obtain ⟨k, rfl⟩ := hd
  have e : (g * k).fdiv (-g) = -k := by
    rw [show g * k = (-g) * (-k) by rw [Int.neg_mul_neg], Int.mul_fdiv_cancel_left _ (by omega)]
  rw [e, show -(g * k) = g * (-k) by rw [Int.mul_neg], Int.mul_ediv_cancel_left _ (by omega)]
theorem lowest_eq {a b : Int} {cs : Cs} (hb : b ≠ 0) (hz : b.natAbs < 2 ^ 8000) : m_lowest_of [.dat (.int a), .dat (.int b)] cs = some (.dat (.tuple [.int (nfA a b), .int (nfB a b)]), cs) := by
  have g0 := gcd_pos (a := a) hb
  have g1 : Int.gcd a b < 2 ^ 8000 := Nat.lt_of_le_of_lt (gcd_le hb) hz
  have two : 2 ≤ sizeLine := by rw [sizeLine_eq]; decide
  have dv : ∀ x : Int, CDv x (Int.gcd a b : Int) := fun x => ⟨by omega, by
    have := log2_le g1
    show (Int.gcd a b : Int).natAbs.log2 < 9000
    rw [Int.natAbs_natCast]
    omega⟩
  have dvn : ∀ x : Int, CDv x (-(Int.gcd a b : Int)) := fun x => ⟨by omega, by
    have := log2_le g1
    show (-(Int.gcd a b : Int)).natAbs.log2 < 9000
    rw [Int.natAbs_neg, Int.natAbs_natCast]
    omega⟩
  have gi : (0 : Int) < (Int.gcd a b : Int) := by omega
  refine fem_eq ?_
  unfold m_lowest_of
  rw [em_fnM]
  unfold b_lowest_of
  simp
  refine fem_of common_eq ?_
  by_cases hn : b < 0
  · have s : b.sign = -1 := Int.sign_eq_neg_one_of_neg hn
    have e1 : a.fdiv (-(Int.gcd a b : Int)) = nfA a b := by
      rw [fdiv_neg' gi (Int.gcd_dvd_left ..)]
      unfold nfA
      rw [s, Int.neg_one_mul]
    have e2 : b.fdiv (-(Int.gcd a b : Int)) = nfB a b := by
      rw [fdiv_neg' gi (Int.gcd_dvd_right ..)]
      unfold nfB
      rw [show (b.natAbs : Int) = -b by omega]
    simp [dLt_int, hn, dSub_int, dDiv_int (dvn _), e1, e2, two]
  · have s : b.sign = 1 := Int.sign_eq_one_of_pos (by omega)
    have e1 : a.fdiv (Int.gcd a b : Int) = nfA a b := by
      rw [fdiv_pos gi]
      unfold nfA
      rw [s, Int.one_mul]
    have e2 : b.fdiv (Int.gcd a b : Int) = nfB a b := by
      rw [fdiv_pos gi]
      unfold nfB
      rw [show (b.natAbs : Int) = b by omega]
    simp [dLt_int, hn, dDiv_int (dv _), e1, e2, two]
def fracB : D → Bool
  | .tuple [.int p, .int q] => decide (1 ≤ q) && ((Int.gcd p q : Int) == 1)
  | _ => false
theorem dIx_t0 {a b : D} : dIx (.tuple [a, b]) (.int 0) = some (.dat a) := rfl
theorem dIx_t1 {a b : D} : dIx (.tuple [a, b]) (.int 1) = some (.dat b) := rfl
theorem is_fraction_eq {d : D} {cs : Cs} : m_is_fraction [.dat d] cs = some (db (fracB d), cs) := by
  refine fem_eq ?_
  unfold m_is_fraction
  rw [em_fnM]
  unfold b_is_fraction
  cases d with
  | tuple ds =>
    match ds with
    | [] => simp [fisi_tuple, dLen, fdNe_int, fracB]
    | [_] => simp [fisi_tuple, dLen, fdNe_int, fracB]
    | x :: y :: z :: r =>
      have e : ((((x :: y :: z :: r).length : Nat) : Int) == 2) = false := by
        rw [beq_eq_false_iff_ne]
        simp only [List.length_cons]
        omega
      simp [fisi_tuple, dLen, fdNe_int, fracB]
      intro h
      exfalso
      have := Int.natCast_nonneg r.length
      omega
    | [x, y] =>
      simp [fisi_tuple, dLen, fdNe_int, dIx_t0, dIx_t1]
      refine fem_of is_whole_eq ?_
      simp
      by_cases hx : ∃ p, x = .int p
      · obtain ⟨p, rfl⟩ := hx
        rw [show wholeB (.int p) = true from rfl, if_pos rfl]
        refine fem_of is_whole_eq ?_
        by_cases hy : ∃ q, y = .int q
        · obtain ⟨q, rfl⟩ := hy
          simp [wholeB, dGe_int]
          by_cases h1 : 1 ≤ q
          · simp [h1]
            refine fem_of common_eq ?_
            simp [fdEq_int, fracB, h1]
          · simp [h1, fracB]
        · have : wholeB y = false := by
            cases y with
            | int q => exact absurd ⟨q, rfl⟩ hy
            | _ => rfl
          simp [this]
          cases y with
          | int q => exact absurd ⟨q, rfl⟩ hy
          | _ => rfl
      · have : wholeB x = false := by
          cases x with
          | int q => exact absurd ⟨q, rfl⟩ hx
          | _ => rfl
        rw [this, if_neg (by decide)]
        cases x with
        | int q => exact absurd ⟨q, rfl⟩ hx
        | _ => rfl
  | _ => simp [fisi_tuple, fracB]
theorem pow_le {n a b : Nat} (h : n < 2 ^ a) (hab : a ≤ b) : n < 2 ^ b := Nat.lt_of_lt_of_le h (Nat.pow_le_pow_right (by decide) hab)
theorem lg_add {i j : Int} {a : Nat} (h1 : i.natAbs < 2 ^ a) (h2 : j.natAbs < 2 ^ a) : (i + j).natAbs < 2 ^ (a + 1) := by
  rw [Nat.pow_succ]
  omega
theorem times_eq {p1 q1 p2 q2 : Int} {n : Nat} {cs : Cs} (h1 : p1.natAbs < 2 ^ n) (h2 : q1.natAbs < 2 ^ n) (h3 : p2.natAbs < 2 ^ n) (h4 : q2.natAbs < 2 ^ n) (hq1 : q1 ≠ 0) (hq2 : q2 ≠ 0) (hn : n ≤ 4000) :
    m_times_of [.dat (.tuple [.int p1, .int q1]), .dat (.tuple [.int p2, .int q2])] cs = some (.dat (.tuple [.int (nfA (p1 * p2) (q1 * q2)), .int (nfB (p1 * p2) (q1 * q2))]), cs) := by
  refine fem_eq ?_
  unfold m_times_of
  rw [em_fnM]
  unfold b_times_of
  simp [dIx_t0, dIx_t1, dMul_int (cml n n h1 h3 (by omega)), dMul_int (cml n n h2 h4 (by omega))]
  refine fem_of (lowest_eq (Int.mul_ne_zero hq1 hq2) (pow_le (lg_mul h2 h4) (by omega))) ?_
  simp
theorem plus_eq {p1 q1 p2 q2 : Int} {n : Nat} {cs : Cs} (h1 : p1.natAbs < 2 ^ n) (h2 : q1.natAbs < 2 ^ n) (h3 : p2.natAbs < 2 ^ n) (h4 : q2.natAbs < 2 ^ n) (hq1 : q1 ≠ 0) (hq2 : q2 ≠ 0) (hn : n ≤ 4000) :
    m_plus_of [.dat (.tuple [.int p1, .int q1]), .dat (.tuple [.int p2, .int q2])] cs = some (.dat (.tuple [.int (nfA (p1 * q2 + p2 * q1) (q1 * q2)), .int (nfB (p1 * q2 + p2 * q1) (q1 * q2))]), cs) := by
  refine fem_eq ?_
  unfold m_plus_of
  rw [em_fnM]
  unfold b_plus_of
  simp [dIx_t0, dIx_t1, dMul_int (cml n n h1 h4 (by omega)), dMul_int (cml n n h3 h2 (by omega)), dMul_int (cml n n h2 h4 (by omega)), dAdd_int]
  refine fem_of (lowest_eq (Int.mul_ne_zero hq1 hq2) (pow_le (lg_mul h2 h4) (by omega))) ?_
  simp
theorem nfB_pos {a b : Int} (h : b ≠ 0) : 0 < nfB a b := by
  have g0 := gcd_pos (a := a) h
  have g1 := gcd_le (a := a) h
  unfold nfB
  rw [← Int.natCast_ediv]
  have := Nat.div_pos g1 g0
  omega
theorem nfB_le {a b : Int} (h : b ≠ 0) : (nfB a b).natAbs ≤ b.natAbs := by
  unfold nfB
  rw [← Int.natCast_ediv, Int.natAbs_natCast]
  exact Nat.div_le_self _ _
theorem nfA_le {a b : Int} : (nfA a b).natAbs ≤ a.natAbs := by
  unfold nfA
  refine Nat.le_trans (Int.natAbs_ediv_le_natAbs _ _) ?_
  rw [Int.natAbs_mul]
  have : b.sign.natAbs ≤ 1 := by
    rcases Int.lt_trichotomy b 0 with h | h | h
    · rw [Int.sign_eq_neg_one_of_neg h]; decide
    · subst h; decide
    · rw [Int.sign_eq_one_of_pos h]; decide
  exact Nat.le_trans (Nat.mul_le_mul_right _ this) (by omega)
theorem nf_gcd {a b : Int} (h : b ≠ 0) : Int.gcd (nfA a b) (nfB a b) = 1 := by
  have g0 := gcd_pos (a := a) h
  have s1 : b.sign.natAbs = 1 := by
    rcases Int.lt_trichotomy b 0 with h' | h' | h'
    · rw [Int.sign_eq_neg_one_of_neg h']; rfl
    · exact absurd h' h
    · rw [Int.sign_eq_one_of_pos h']; rfl
  have eA : (nfA a b).natAbs = a.natAbs / Int.gcd a b := by
    unfold nfA
    rw [Int.natAbs_ediv_of_dvd (Int.dvd_mul_of_dvd_right (Int.gcd_dvd_left ..)), Int.natAbs_mul, s1, Nat.one_mul, Int.natAbs_natCast]
  have eB : (nfB a b).natAbs = b.natAbs / Int.gcd a b := by
    unfold nfB
    rw [← Int.natCast_ediv, Int.natAbs_natCast]
  show Nat.gcd (nfA a b).natAbs (nfB a b).natAbs = 1
  rw [eA, eB]
  exact Nat.gcd_div_gcd_div_gcd_of_pos_right (Int.natAbs_pos.mpr h)
theorem nf_frac {a b : Int} (h : b ≠ 0) : fracB (.tuple [.int (nfA a b), .int (nfB a b)]) = true := by
  show (decide (1 ≤ nfB a b) && ((Int.gcd (nfA a b) (nfB a b) : Int) == 1)) = true
  rw [nf_gcd h, decide_eq_true (by have := nfB_pos (a := a) h; omega)]
  rfl
/-- a fraction in lowest terms stays -/
theorem nf_of {p q : Int} (h1 : 0 < q) (h2 : Int.gcd p q = 1) : nfA p q = p ∧ nfB p q = q := by
  unfold nfA nfB
  rw [h2, Int.sign_eq_one_of_pos h1]
  constructor
  · simp
  · simp; omega
theorem nf_neg {a b : Int} : nfA (-a) (-b) = nfA a b ∧ nfB (-a) (-b) = nfB a b := by
  unfold nfA nfB
  rw [Int.gcd_neg, Int.neg_gcd, Int.sign_neg, Int.neg_mul_neg, Int.natAbs_neg]
  exact ⟨rfl, rfl⟩
theorem nf_mul {a b k : Int} (hk : 0 < k) (hb : b ≠ 0) : nfA (a * k) (b * k) = nfA a b ∧ nfB (a * k) (b * k) = nfB a b := by
  have hk' : k.natAbs ≠ 0 := by omega
  have e : Int.gcd (a * k) (b * k) = Int.gcd a b * k.natAbs := Int.gcd_mul_right ..
  have ek : ((k.natAbs : Nat) : Int) = k := by omega
  unfold nfA nfB
  rw [e, Int.sign_mul, Int.sign_eq_one_of_pos hk, Int.mul_one, Int.natAbs_mul, Int.natCast_mul, Int.natCast_mul, ek, ← Int.mul_assoc]
  exact ⟨Int.mul_ediv_mul_of_pos_left _ _ hk, Int.mul_ediv_mul_of_pos_left _ _ hk⟩
end My
namespace My
open PySem PySem.Spec PyProof.Rows L2 DL
/-! Euclid's steps: how many -/
def eu1 (p : Nat × Nat) : Nat × Nat := if 0 < p.2 then (p.2, p.1 % p.2) else (p.1, 0)
def eu : Nat → Nat × Nat → Nat × Nat
  | 0, p => p
  | n + 1, p => eu n (eu1 p)
theorem eu_succ : ∀ (n : Nat) (p : Nat × Nat), eu (n + 1) p = eu1 (eu n p)
  | 0, _ => rfl
  | n + 1, p => by
    show eu (n + 1) (eu1 p) = eu1 (eu n (eu1 p))
    exact eu_succ n (eu1 p)
theorem eu1_gcd (p : Nat × Nat) : Nat.gcd (eu1 p).1 (eu1 p).2 = Nat.gcd p.1 p.2 := by
  unfold eu1
  split
  · show Nat.gcd p.2 (p.1 % p.2) = _
    rw [Nat.gcd_comm p.1 p.2, Nat.gcd_rec p.2 p.1, Nat.gcd_comm]
  · have : p.2 = 0 := by omega
    rw [this]
theorem eu_gcd : ∀ (n : Nat) (p : Nat × Nat), Nat.gcd (eu n p).1 (eu n p).2 = Nat.gcd p.1 p.2
  | 0, _ => rfl
  | n + 1, p => by
    show Nat.gcd (eu n (eu1 p)).1 (eu n (eu1 p)).2 = _
    rw [eu_gcd n, eu1_gcd]
def fib : Nat → Nat
  | 0 => 0
  | 1 => 1
  | n + 2 => fib n + fib (n + 1)
theorem eu_zero : ∀ (n : Nat) (x : Nat), (eu n (x, 0)).2 = 0
  | 0, _ => rfl
  | n + 1, x => eu_zero n x
theorem lame : ∀ (n a b : Nat), 0 < (eu n (a, b)).2 → fib (n + 1) ≤ b ∧ (b ≤ a → fib (n + 2) ≤ a)
  | 0, a, b, h => by
    have h' : 0 < b := h
    exact ⟨h', fun hb => by show 0 + 1 ≤ a; omega⟩
  | n + 1, a, b, h => by
    have hb : 0 < b := by
      rcases Nat.eq_zero_or_pos b with h0 | h0
      · subst h0
        have := eu_zero (n + 1) a
        omega
      · exact h0
    have e : eu (n + 1) (a, b) = eu n (b, a % b) := by
      show eu n (eu1 (a, b)) = _
      unfold eu1
      rw [if_pos hb]
    rw [e] at h
    obtain ⟨h1, h2⟩ := lame n b (a % b) h
    have hm := Nat.mod_lt a hb
    have h3 := h2 (Nat.le_of_lt hm)
    refine ⟨h3, fun hba => ?_⟩
    have : b + a % b ≤ a := by
      have q1 := Nat.div_add_mod a b
      have q2 : 1 ≤ a / b := Nat.div_pos hba hb
      have q3 : b * 1 ≤ b * (a / b) := Nat.mul_le_mul_left b q2
      omega
    show fib (n + 1) + fib (n + 2) ≤ a
    omega
theorem fib_mono : ∀ n, fib n ≤ fib (n + 1)
  | 0 => Nat.zero_le _
  | 1 => Nat.le_refl _
  | n + 2 => by
    have h1 : fib n ≤ fib (n + 1) := fib_mono n
    have h2 : fib (n + 1) ≤ fib (n + 2) := fib_mono (n + 1)
    show fib n + fib (n + 1) ≤ fib (n + 1) + fib (n + 2)
    omega
theorem fib_ten : ∀ d, 10 ^ d ≤ fib (5 * d + 2)
  | 0 => Nat.le_refl 1
  | d + 1 => by
    have ih := fib_ten d
    have m := fib_mono (5 * d + 1)
    have m0 := fib_mono (5 * d)
    rw [show 5 * (d + 1) + 2 = 5 * d + 2 + 5 by omega, Nat.pow_succ]
    have e2 : fib (5 * d + 2) = fib (5 * d) + fib (5 * d + 1) := rfl
    have e3 : fib (5 * d + 3) = fib (5 * d + 1) + fib (5 * d + 2) := rfl
    have e4 : fib (5 * d + 4) = fib (5 * d + 2) + fib (5 * d + 3) := rfl
    have e5 : fib (5 * d + 5) = fib (5 * d + 3) + fib (5 * d + 4) := rfl
    have e6 : fib (5 * d + 6) = fib (5 * d + 4) + fib (5 * d + 5) := rfl
    have e7 : fib (5 * d + 2 + 5) = fib (5 * d + 5) + fib (5 * d + 6) := rfl
    omega
theorem eu_done {a b d : Nat} (h : b < 10 ^ d) : (eu (5 * d + 1) (a, b)).2 = 0 := by
  rcases Nat.eq_zero_or_pos (eu (5 * d + 1) (a, b)).2 with h0 | h0
  · exact h0
  · have h1 : fib (5 * d + 2) ≤ b := (lame _ a b h0).1
    have h2 := fib_ten d
    omega
theorem eu_end {a b d : Nat} (h : b < 10 ^ d) : eu (5 * d + 1) (a, b) = (Nat.gcd a b, 0) := by
  have h1 := eu_done (a := a) h
  have h2 := eu_gcd (5 * d + 1) (a, b)
  rw [h1, Nat.gcd_zero_right] at h2
  exact Prod.ext h2 h1
end My
namespace My
open PySem PySem.Spec PyProof.Rows L2 DL
def b__law_copied (self : MF) : MS :=
  (sSeq (sIf (mTru (mU (dIsi "list") (xVar 0))) (sRet (xComp (iSeq (xVar 0)) (gNm 1) mYes (mCallF 1 self (aCons (xVar 1) aNil)) [1])) sNil)
  (sSeq (sIf (mTru (mU (dIsi "tuple") (xVar 0))) (sRet (mCall dTuple (aCons (xComp (iSeq (xVar 0)) (gNm 1) mYes (mCallF 1 self (aCons (xVar 1) aNil)) [1]) aNil))) sNil)
  (sRet (mIf (mTru (mU (dIsi "dict") (xVar 0))) (mCall dDict (aCons (xComp (iSeq (xVar 0)) (gNm 2) mYes (xTup (aCons (xVar 2) (aCons (mCallF 1 self (aCons (mB dDGet (xVar 0) (xVar 2)) aNil)) aNil))) [2]) aNil)) (xVar 0)))))
def m__law_copied : MF := recM 3 b__law_copied 6
def b__law_exact (self : MF) : MS :=
  (sSeq (sIf (mTru (mU (dIsi "list") (xVar 1))) (sRet (mAnd (mU (dIsi "list") (xVar 0)) (mAnd (mB dEq (mCall dLen (aCons (xVar 0) aNil)) (mCall dLen (aCons (xVar 1) aNil))) (mB dNotIn (xC (.bool false)) (xComp (iZp (aCons (xVar 0) (aCons (xVar 1) aNil))) (gTp 2 (gsCons (gNm 2) (gsCons (gNm 3) gsNil))) mYes (mCallF 2 self (aCons (xVar 2) (aCons (xVar 3) aNil))) [2, 3]))))) sNil)
  (sSeq (sIf (mTru (mU (dIsi "tuple") (xVar 1))) (sRet (mAnd (mU (dIsi "tuple") (xVar 0)) (mAnd (mB dEq (mCall dLen (aCons (xVar 0) aNil)) (mCall dLen (aCons (xVar 1) aNil))) (mB dNotIn (xC (.bool false)) (xComp (iZp (aCons (xVar 0) (aCons (xVar 1) aNil))) (gTp 2 (gsCons (gNm 2) (gsCons (gNm 3) gsNil))) mYes (mCallF 2 self (aCons (xVar 2) (aCons (xVar 3) aNil))) [2, 3]))))) sNil)
  (sSeq (sIf (mTB (mB (dIs id) (xVar 1) (xC .none))) (sRet (mB (dIs id) (xVar 0) (xC .none))) sNil)
  (sSeq (sIf (mTB (mB (dIs id) (xVar 1) (xC (.bool true)))) (sRet (mB (dIs id) (xVar 0) (xC (.bool true)))) sNil)
  (sSeq (sIf (mTB (mB (dIs id) (xVar 1) (xC (.bool false)))) (sRet (mB (dIs id) (xVar 0) (xC (.bool false)))) sNil)
  (sSeq (sIf (mTru (mU (dIsi "int") (xVar 1))) (sRet (mAnd (mU (dIsi "int") (xVar 0)) (mAnd (mU dNot (mU (dIsi "bool") (xVar 0))) (mB dEq (xVar 0) (xVar 1))))) sNil)
  (sRet (mAnd (mU (dIsi "str") (xVar 0)) (mB dEq (xVar 0) (xVar 1))))))))))
def m__law_exact : MF := recM 4 b__law_exact 6
def b__law_any : MS :=
  (sSeq (sSet 1 (xLst (aCons (xC .none) (aCons (xC (.bool true)) (aCons (xC (.bool false)) (aCons (xC (.int 0)) (aCons (xC (.int 1)) (aCons (mU dNeg (xC (.int 1))) (aCons (mB dPow (xC (.int 10)) (xC (.int 11))) (aCons (xC (.str "")) (aCons (xC (.str "a")) (aCons (xC (.str "A")) (aCons (xC (.str "ab")) (aCons (xC (.str "a b")) (aCons (xC (.str "1a")) (aCons (xC (.str "a1")) (aCons (xC (.str " ")) (aCons (xC (.str "a\n")) (aCons (mB dMul (xC (.str "z")) (xC (.int 20))) (aCons (mB dMul (xC (.str "z")) (xC (.int 21))) (aCons (xC (.str "abcdefgh")) (aCons (xC (.str "abcdefghi")) aNil))))))))))))))))))))))
  (sSeq (sSet 1 (mB dAdd (xVar 1) (xLst (aCons (xLst aNil) (aCons (xTup aNil) (aCons (xC (.dict [])) (aCons (xLst (aCons (xC (.int 0)) aNil)) (aCons (xLst (aCons (xC (.int 1)) (aCons (xC (.int 0)) aNil))) (aCons (xLst (aCons (xC (.int 0)) (aCons (xC (.str "a")) aNil))) (aCons (xLst (aCons (xC (.str "a")) (aCons (xC (.int 0)) aNil))) (aCons (xLst (aCons (xC .none) (aCons (xC (.int 0)) aNil))) (aCons (xLst (aCons (xC (.int 0)) (aCons (xLst (aCons (xC (.int 1)) aNil)) aNil))) (aCons (xLst (aCons (xC (.int 0)) (aCons (xTup (aCons (xC (.int 1)) aNil)) aNil))) (aCons (xLst (aCons (xC (.bool true)) aNil)) (aCons (xLst (aCons (xC (.int 0)) (aCons (xC (.int 1)) aNil))) (aCons (xLst (aCons (xC (.int 0)) (aCons (xC (.int 0)) aNil))) (aCons (xTup (aCons (xC (.int 0)) (aCons (xC (.int 1)) aNil))) (aCons (xLst (aCons (xC (.str "a")) aNil)) (aCons (xLst (aCons (xLst aNil) aNil)) aNil)))))))))))))))))))
  (sSeq (sSet 1 (mB dAdd (xVar 1) (xLst (aCons (xC (.dict [((.str "a"), (.int 1))])) (aCons (xLst (aCons (xC (.int 1)) (aCons (xC (.int 2)) (aCons (mB dPow (xC (.int 10)) (xC (.int 11))) aNil)))) (aCons (xLst (aCons (mU dNeg (xC (.int 1))) aNil)) (aCons (xC (.str "a_b")) (aCons (xC (.str "aB")) (aCons (mB dMul (xC (.str "a")) (xC (.int 200))) (aCons (xC (.str "e0")) (aCons (xC (.str "0")) (aCons (xC (.str "house")) (aCons (xTup (aCons (xC (.str "house")) aNil)) aNil)))))))))))))
  (sRet (mCallF 1 m__law_copied (aCons (mCallF 2 m__law_pick (aCons (xVar 0) (aCons (xVar 1) aNil))) aNil))))))
def m__law_any : MF := fnM 2 b__law_any
/-! plain facts -/
theorem em_eq {m : MF} {rs : List Rv} {cs cs' : Cs} {z : Rv} (h : Em m rs cs fun r c => r = z ∧ c = cs') : m rs cs = some (z, cs') := by
  obtain ⟨a, b, e, rfl, rfl⟩ := wpo_iff.mp h
  exact e
theorem em_of {m : MF} {rs : List Rv} {cs cs' : Cs} {z : Rv} {Q : Rv → Cs → Prop} (e : m rs cs = some (z, cs')) (h : Q z cs') : Em m rs cs Q := wpo_of e h
theorem plain_all : ∀ {l : List D}, PyData.plainAll l = true ↔ ∀ d ∈ l, d.plain = true
  | [] => by simp [PyData.plainAll]
  | x :: xs => by
    rw [PyData.plainAll, Bool.and_eq_true, plain_all]
    simp
theorem eqv_nil (l : List D) : PyData.eqv (.list l) (.list []) = l.isEmpty := by
  cases l <;> simp [PyData.eqv, PyData.eqvAll]
theorem dEq_nil {l : List D} (h : PyData.plainAll l = true) : dEq (.list l) (.list []) = some (db l.isEmpty) := by
  unfold dEq
  rw [if_pos ⟨h, rfl, Nat.le_trans (Nat.min_le_right _ _) (by decide)⟩, eqv_nil]
theorem dNe_nil {l : List D} (h : PyData.plainAll l = true) : dNe (.list l) (.list []) = some (db (!l.isEmpty)) := by
  unfold dNe
  rw [if_pos ⟨h, rfl, Nat.le_trans (Nat.min_le_right _ _) (by decide)⟩, eqv_nil]
theorem dEq_int {i j : Int} : dEq (.int i) (.int j) = some (db (i == j)) := by
  unfold dEq
  rw [if_pos ⟨rfl, rfl, by show min 0 0 ≤ 100; decide⟩]
  rfl
theorem isi_str (d : D) : dIsi "str" d = some (db (match d with | .str _ => true | _ => false)) := by
  cases d with
  | dict kvs =>
    show (kitB (if isFn kvs = true then "function" else "dict") "str").map db = _
    split <;> rfl
  | _ => rfl
theorem isi_list (d : D) : dIsi "list" d = some (db (match d with | .list _ => true | _ => false)) := by
  cases d with
  | dict kvs =>
    show (kitB (if isFn kvs = true then "function" else "dict") "list").map db = _
    split <;> rfl
  | _ => rfl
theorem isi_tuple (d : D) : dIsi "tuple" d = some (db (match d with | .tuple _ => true | _ => false)) := by
  cases d with
  | dict kvs =>
    show (kitB (if isFn kvs = true then "function" else "dict") "tuple").map db = _
    split <;> rfl
  | _ => rfl
theorem isi_dict (d : D) : dIsi "dict" d = some (db (match d with | .dict kvs => !isFn kvs | _ => false)) := by
  cases d with
  | dict kvs =>
    show (kitB (if isFn kvs = true then "function" else "dict") "dict").map db = some (db (!isFn kvs))
    cases isFn kvs <;> rfl
  | _ => rfl
theorem isi_int (d : D) : dIsi "int" d = some (db (match d with | .int _ => true | .bool _ => true | _ => false)) := by
  cases d with
  | dict kvs =>
    show (kitB (if isFn kvs = true then "function" else "dict") "int").map db = _
    split <;> rfl
  | _ => rfl
theorem isi_bool (d : D) : dIsi "bool" d = some (db (match d with | .bool _ => true | _ => false)) := by
  cases d with
  | dict kvs =>
    show (kitB (if isFn kvs = true then "function" else "dict") "bool").map db = _
    split <;> rfl
  | _ => rfl
def SmS (d : D) : Prop := ∀ x, d = .str x → x.length ≤ sizeLine
def isS (d : D) : Bool := match d with
  | .str _ => true
  | _ => false
theorem rng_mem {lo : Int} {n : Nat} {d : D} (h : d ∈ rngD lo n) : ∃ i : Nat, i < n ∧ d = .int (lo + i) := by
  obtain ⟨i, h1, rfl⟩ := List.mem_map.mp h
  exact ⟨i, List.mem_range.mp h1, rfl⟩
theorem rng_len {lo : Int} {n : Nat} : (rngD lo n).length = n := by simp [rngD]
theorem rng_plain {lo : Int} {n : Nat} : PyData.plainAll (rngD lo n) = true := by
  rw [plain_all]
  intro d hd
  obtain ⟨i, _, rfl⟩ := rng_mem hd
  rfl
theorem plain_filter {l : List D} {P : D → Bool} (h : PyData.plainAll l = true) : PyData.plainAll (l.filter P) = true := by
  rw [plain_all] at h ⊢
  exact fun d hd => h d (List.mem_filter.mp hd).1
/-- what may be judged -/
structure Gd (d : D) : Prop where
  ok : rOk d = true
  sm : SmS d
  li : ∀ ds, d = .list ds → ds.length ≤ sizeLine ∧ PyData.plainAll ds = true ∧ ∀ x ∈ ds, SmS x
theorem notin_bools {l : List D} (h : ∀ d ∈ l, d = .bool true) : dNotIn (.bool false) (.list l) = some (db true) := by
  unfold dNotIn
  rw [if_pos (c := CIn (.bool false) (.list l)) ⟨plain_all.mpr fun d hd => by rw [h d hd]; rfl, rfl, Nat.le_trans (Nat.min_le_right _ _) (by show 0 ≤ 100; decide)⟩]
  have e : inD (.bool false) (.list l) = false := by
    show (l.any fun y => PyData.eqv y (.bool false)) = false
    rw [List.any_eq_false]
    intro d hd
    rw [h d hd]
    decide
  rw [e]
  rfl
theorem dEq_str {x y : Str} : dEq (.str x) (.str y) = some (db (x == y)) := by
  unfold dEq
  rw [if_pos ⟨rfl, rfl, by show min 0 0 ≤ 100; decide⟩]
  rfl
theorem repr_ok {d : D} (h : rOk d = true) : dRepr [d] = some (.dat (.str d.shown)) := if_pos h
theorem two_fit : 2 ≤ sizeLine := by rw [sizeLine_eq]; decide
theorem pick0 {r : Rv} : pick [0] [r] = [r] := rfl
/-- a small plain thing -/
def flB : D → Bool
  | .none => true
  | .bool _ => true
  | .int i => decide (i.natAbs < 10 ^ 40)
  | .str x => decide (x.length ≤ 1000) && x.cps.toList.all fun c => decide (c < 16 ^ 8)
  | _ => false
theorem ofs_len (x : String) : (Str.ofString x).length = x.length := PySem.ofString_length x
theorem fl_show {d : D} (h : flB d = true) : d.showable = true := by
  cases d with
  | int i =>
    have h' : i.natAbs < 10 ^ 40 := of_decide_eq_true h
    have : i.natAbs.log2 ≤ 133 := log2_le (Nat.lt_trans h' (by decide))
    show decide _ = true
    exact decide_eq_true (by omega)
  | list _ => cases h
  | tuple _ => cases h
  | dict _ => cases h
  | _ => rfl
theorem fl_leaf {d : D} (h : flB d = true) : d.leavesShort 41 = true := by
  cases d with
  | int i =>
    have h' : i.natAbs < 10 ^ 40 := of_decide_eq_true h
    have := PySem.int_text_length_le10 (k := 40) (by decide) h'
    show decide ((PyData.shown (.int i)).length ≤ 41) = true
    refine decide_eq_true ?_
    show (Str.ofString (toString i)).length ≤ 41
    rw [ofs_len]
    exact this
  | str x => exact (Bool.and_eq_true_iff.mp h).2
  | list _ => cases h
  | tuple _ => cases h
  | dict _ => cases h
  | _ => rfl
theorem fl_bulk {d : D} (h : flB d = true) : d.bulk ≤ 1000 := by
  cases d with
  | str x => exact of_decide_eq_true (Bool.and_eq_true_iff.mp h).1
  | list _ => cases h
  | tuple _ => cases h
  | dict _ => cases h
  | _ => exact Nat.zero_le _
theorem fl_depth {d : D} (h : flB d = true) : d.depth = 0 := by
  cases d with
  | list _ => cases h
  | tuple _ => cases h
  | dict _ => cases h
  | _ => rfl
theorem fl_dict {d : D} (h : flB d = true) : d.hasDict = false := by
  cases d with
  | list _ => cases h
  | tuple _ => cases h
  | dict _ => cases h
  | _ => rfl
theorem fl_plain {d : D} (h : flB d = true) : d.plain = true := by
  cases d with
  | list _ => cases h
  | tuple _ => cases h
  | dict _ => cases h
  | _ => rfl
theorem fl_sm {d : D} (h : flB d = true) : SmS d := fun x e => by
  subst e
  have := of_decide_eq_true (Bool.and_eq_true_iff.mp h).1
  rw [sizeLine_eq]
  omega
theorem fls : ∀ {ds : List D}, (∀ x ∈ ds, flB x = true) → PyData.showableAll ds = true ∧ PyData.leavesShortAll 41 ds = true ∧ PyData.bulkAll ds ≤ 1001 * ds.length ∧ PyData.depthAll ds = 0 ∧ PyData.hasDictAll ds = false ∧ PyData.plainAll ds = true
  | [], _ => ⟨rfl, rfl, Nat.le_refl _, rfl, rfl, rfl⟩
  | d :: ds, h => by
    have a := h d (List.mem_cons_self ..)
    obtain ⟨h1, h2, h3, h4, h5, h6⟩ := fls fun x hx => h x (List.mem_cons_of_mem _ hx)
    refine ⟨?_, ?_, ?_, ?_, ?_, ?_⟩
    · rw [PyData.showableAll, fl_show a, h1]; rfl
    · rw [PyData.leavesShortAll, fl_leaf a, h2]; rfl
    · rw [PyData.bulkAll, List.length_cons]
      have := fl_bulk a
      omega
    · rw [PyData.depthAll, fl_depth a, h4]; rfl
    · rw [PyData.hasDictAll, fl_dict a, h5]; rfl
    · rw [PyData.plainAll, fl_plain a, h6]; rfl
theorem rok {d : D} (h1 : d.showable = true) (h2 : flatD d = true) (h3 : d.depth ≤ 100) (h4 : d.shown.length ≤ sizeLine) : rOk d = true := by
  unfold rOk
  rw [h1, h2, decide_eq_true h3, decide_eq_true h4]
  rfl
theorem gd_list {ds : List D} (h : ∀ x ∈ ds, flB x = true) (hl : ds.length ≤ 100) : Gd (.list ds) := by
  obtain ⟨h1, h2, h3, h4, h5, h6⟩ := fls h
  refine ⟨rok h1 (by show (!PyData.hasDictAll ds) = true; rw [h5]; rfl) (by show PyData.depthAll ds + 1 ≤ 100; omega) ?_, nofun, fun ds' e => ?_⟩
  · have := PyData.shown_le_bulk 41 (by decide) (.list ds) h2
    have e : PyData.bulk (.list ds) = PyData.bulkAll ds := rfl
    rw [e] at this
    rw [sizeLine_eq]
    omega
  · cases e
    exact ⟨by rw [sizeLine_eq]; omega, h6, fun x hx => fl_sm (h x hx)⟩
theorem gd_tuple {ds : List D} (h : ∀ x ∈ ds, flB x = true) (hl : ds.length ≤ 100) : Gd (.tuple ds) := by
  obtain ⟨h1, h2, h3, h4, h5, h6⟩ := fls h
  refine ⟨rok h1 (by show (!PyData.hasDictAll ds) = true; rw [h5]; rfl) (by show PyData.depthAll ds + 1 ≤ 100; omega) ?_, nofun, nofun⟩
  have := PyData.shown_le_bulk 41 (by decide) (.tuple ds) h2
  have e : PyData.bulk (.tuple ds) = PyData.bulkAll ds := rfl
  rw [e] at this
  rw [sizeLine_eq]
  omega
theorem gd_fl {d : D} (h : flB d = true) : Gd d := by
  refine ⟨rok (fl_show h) ?_ (by rw [fl_depth h]; decide) ?_, fl_sm h, ?_⟩
  · cases d with
    | list _ => cases h
    | tuple _ => cases h
    | dict _ => cases h
    | _ => rfl
  · have := PyData.shown_le_bulk 41 (by decide) d (fl_leaf h)
    have := fl_bulk h
    rw [sizeLine_eq]
    omega
  · intro ds e
    subst e
    cases h
/-- by computing -/
def smB : D → Bool
  | .str x => decide (x.length ≤ sizeLine)
  | _ => true
theorem smB_ok {d : D} (h : smB d = true) : SmS d := fun x e => by subst e; exact of_decide_eq_true h
def gdB (d : D) : Bool := rOk d && smB d && match d with
  | .list ds => decide (ds.length ≤ sizeLine) && PyData.plainAll ds && ds.all smB
  | _ => true
theorem gdB_ok {d : D} (h : gdB d = true) : Gd d := by
  unfold gdB at h
  simp only [Bool.and_eq_true] at h
  refine ⟨h.1.1, smB_ok h.1.2, fun ds e => ?_⟩
  subst e
  have h2 := h.2
  simp only [Bool.and_eq_true, decide_eq_true_eq] at h2
  exact ⟨h2.1.1, h2.1.2, fun x hx => smB_ok (List.all_eq_true.mp h2.2 x hx)⟩
/-! ### copies -/
def cpR : D → Rv
  | .list ds => .fr ds
  | d => .dat d
theorem cpR_deg (d : D) : deg (cpR d) = .dat d := by cases d <;> rfl
def cpOk : Nat → D → Bool
  | 0, _ => false
  | n + 1, .list ds => decide (ds.length ≤ sizeLine) && ds.all (cpOk n)
  | n + 1, .tuple ds => decide (ds.length ≤ sizeLine) && ds.all (cpOk n)
  | _ + 1, .dict [] => true
  | n + 1, .dict [(.str x, .int _)] => decide (0 < n) && decide (x.length ≤ sizeLine)
  | _ + 1, .dict _ => false
  | _ + 1, _ => true
theorem datOf_iff {r : Rv} {d : D} {Q : D → Prop} (h : deg r = .dat d) : DatOf r Q ↔ Q d := by
  unfold DatOf
  rw [h]
  exact Iff.rfl
theorem copied_eq : ∀ (n : Nat) (d : D) (cs : Cs), cpOk n d = true → recM 3 b__law_copied n [.dat d] cs = some (cpR d, cs)
  | 0, _, _, h => by cases h
  | n + 1, d, cs, h => by
    refine em_eq ?_
    rw [em_rec, em_fnM]
    unfold b__law_copied
    have body : ∀ (ds : List D), ds.length ≤ sizeLine → ds.all (cpOk n) = true → ∀ (d : D) (Q : List D → Cs → Prop), Q ds cs → Ec (gNm 1) mYes (mCallF 1 (recM 3 b__law_copied n) (aCons (xVar 1) aNil)) ds (wipeR [some (.dat d), none, none] [1]) cs [] Q := fun ds hz ha d Q q => by
      refine ec_pure (fun _ => true) id (fun x hx cs' => ?_) (by simpa using hz) (by rw [List.nil_append, List.map_id, List.filter_eq_self.mpr (fun _ _ => rfl)]; exact q)
      simp [wipeR]
      refine em_of (copied_eq n x cs' (List.all_eq_true.mp ha x hx)) ?_
      exact ⟨rfl, (datOf_iff (cpR_deg x)).mpr rfl⟩
    match d, h with
    | .list ds, h =>
      obtain ⟨h1, h2⟩ := Bool.and_eq_true_iff.mp (show (decide (ds.length ≤ sizeLine) && ds.all (cpOk n)) = true from h)
      simp [isi_list]
      refine body ds (of_decide_eq_true h1) h2 _ _ ?_
      simp [cpR]
    | .tuple ds, h =>
      obtain ⟨h1, h2⟩ := Bool.and_eq_true_iff.mp (show (decide (ds.length ≤ sizeLine) && ds.all (cpOk n)) = true from h)
      simp [isi_list, isi_tuple]
      refine body ds (of_decide_eq_true h1) h2 _ _ ?_
      simp [cpR, dTuple]
    | .dict [], h =>
      simp [isi_list, isi_tuple, isi_dict, isFn, itemsOf, dDict, prsOf, cpR]
    | .dict [(.str x, .int i)], h =>
      obtain ⟨h1, h2⟩ := Bool.and_eq_true_iff.mp (show (decide (0 < n) && decide (x.length ≤ sizeLine)) = true from h)
      have h2' : x.length ≤ sizeLine := of_decide_eq_true h2
      have rec1 : ∀ cs' : Cs, recM 3 b__law_copied n [.dat (.int i)] cs' = some (.dat (.int i), cs') := fun cs' => copied_eq n (.int i) cs' (by
        cases n with
        | zero => cases h1
        | succ n => rfl)
      have e1 : dDGet (.dict [(.str x, .int i)]) (.str x) = some (.dat (.int i)) := by
        simp [dDGet, isFn, keyOf, look, eqK]
      simp [isi_list, isi_tuple, isi_dict, isFn, itemsOf, h2']
      refine ec_cons ?_
      simp [wipeR, e1]
      refine em_of (rec1 _) ?_
      have two : 2 ≤ sizeLine := two_fit
      simp [two]
      refine ⟨cs, [], ⟨rfl, rfl⟩, rfl, Nat.lt_of_lt_of_le (by decide) (Nat.le_of_eq sizeLine_eq.symm), ?_⟩
      simp [dDict, prsOf, prOf, keyOf, cpR, kD]
    | .none, h => simp [isi_list, isi_tuple, isi_dict, cpR]
    | .bool b, h => simp [isi_list, isi_tuple, isi_dict, cpR]
    | .int i, h => simp [isi_list, isi_tuple, isi_dict, cpR]
    | .str x, h => simp [isi_list, isi_tuple, isi_dict, cpR]

theorem set_set' {cs : Cs} {k : Nat} {a b : Option (List D)} : (cs.set k a).set k b = cs.set k b := by simp
theorem set_app {cs : Cs} {k : Nat} {a : Option (List D)} {t : Cs} (h : k < cs.length) : (cs ++ t).set k a = cs.set k a ++ t := List.set_append_left _ _ h
theorem get_app {cs t : Cs} {k : Nat} {c : List D} (h : cs[k]? = some (some c)) : (cs ++ t)[k]? = some (some c) := by
  rw [List.getElem?_append_left (List.getElem?_eq_some_iff.mp h).1, h]
theorem get_set {cs : Cs} {k : Nat} {c c' : List D} (h : cs[k]? = some (some c)) : (cs.set k (some c'))[k]? = some (some c') := List.getElem?_set_self (List.getElem?_eq_some_iff.mp h).1
/-- [body for turn in range(n)] where each turn draws: cost w a turn, items as P says -/
theorem draws {k n i w : Nat} {b : Int} {ρ : Rho} {f : ME} {P : D → Prop} {cs : Cs} {c : List D} {Q : List D → Cs → Prop} (hc : cs[k]? = some (some c)) (hg : Gs b c) (hn : n ≤ 1000) (hw : (w : Int) * n + b ≤ 10 ^ 20)
    (hf : ∀ (x : D) (b' : Int) (cs' : Cs) (c' : List D) (Q : Rv → Cs → Prop), b' + w ≤ 10 ^ 20 → cs'[k]? = some (some c') → Gs b' c' → (∀ (d : D) (c2 : List D), P d → Gs (b' + w) c2 → Q (.dat d) (cs'.set k (some c2))) → Ev f (ρ.set i (some (.dat x))) cs' Q)
    (h : ∀ (ds : List D) (c' : List D), ds.length = n → (∀ d ∈ ds, P d) → Gs (b + w * n) c' → Q ds (cs.set k (some c'))) : Ec (gNm i) mYes f (rngD 0 n) ρ cs [] Q := by
  have hk := (List.getElem?_eq_some_iff.mp hc).1
  refine ec_inv (k := 0) (fun j acc cs' => ∃ c', acc.length = j ∧ j ≤ n ∧ (∀ d ∈ acc, P d) ∧ Gs (b + w * j) c' ∧ cs' = cs.set k (some c')) ⟨c, rfl, Nat.zero_le _, by simp, by simpa using hg, ?_⟩ ?_ ?_
  · apply List.ext_getElem?
    intro j
    by_cases hj : k = j
    · subst hj
      rw [List.getElem?_set_self hk, hc]
    · rw [List.getElem?_set_ne hj]
  · rintro j d acc cs' hd ⟨c', e1, e2, e3, e4, rfl⟩
    simp only [Nat.zero_add] at e1 e2 e4 ⊢
    have hj : j < n := by
      have := (List.getElem?_eq_some_iff.mp hd).1
      rw [rng_len] at this
      exact this
    have e5 : (w : Int) * (j + 1 : Nat) ≤ w * n := by
      rw [← Int.natCast_mul, ← Int.natCast_mul]
      exact Int.ofNat_le.mpr (Nat.mul_le_mul_left w hj)
    have e6 : (w : Int) * (j + 1 : Nat) = w * j + w := by
      rw [Int.natCast_add, Int.mul_add]
      simp
    rw [eg_gNm, et_mYes, if_pos rfl]
    refine hf d (b + w * j) _ c' _ (by omega) (get_app (get_set hc)) e4 fun x c2 hx hg2 => ?_
    rw [datOf_dat]
    refine ⟨cs.set k (some c2), acc, ?_, by simp, ?_, c2, by simp [e1], hj, ?_, ?_, rfl⟩
    · rw [set_app (by simpa using hk), set_set']
    · rw [sizeLine_eq]
      omega
    · intro y hy
      rcases List.mem_append.mp hy with h1 | h1
      · exact e3 y h1
      · rw [List.mem_singleton.mp h1]; exact hx
    · exact hg2.mono (by omega)
  · rintro acc cs' ⟨c', e1, e2, e3, e4, rfl⟩
    rw [rng_len, Nat.zero_add] at e1 e4
    exact h acc c' e1 e3 e4
def isI (d : D) : Bool := match d with
  | .int _ => true
  | _ => false
theorem sok {ds : List D} (h : (ds.all isS || ds.all isI) = true) : sOk ds = true := by
  unfold sOk
  rw [Bool.and_eq_true, Bool.and_eq_true, Bool.or_eq_true]
  rw [Bool.or_eq_true] at h
  refine ⟨⟨?_, .inr ?_⟩, ?_⟩
  · rw [List.all_eq_true]
    intro d hd
    rw [List.all_eq_true]
    intro e he
    rcases h with h | h
    · have h1 := List.all_eq_true.mp h d hd
      have h2 := List.all_eq_true.mp h e he
      cases d <;> cases e <;> first | rfl | (cases h1; done) | (cases h2; done)
    · have h1 := List.all_eq_true.mp h d hd
      have h2 := List.all_eq_true.mp h e he
      cases d <;> cases e <;> first | rfl | (cases h1; done) | (cases h2; done)
  · rw [List.all_eq_true]
    intro d hd
    rcases h with h | h
    · have h1 := List.all_eq_true.mp h d hd
      cases d <;> first | rfl | (cases h1; done)
    · have h1 := List.all_eq_true.mp h d hd
      cases d <;> first | rfl | (cases h1; done)
  · rw [List.all_eq_true]
    intro d hd
    refine decide_eq_true ?_
    rcases h with h | h
    · have h1 := List.all_eq_true.mp h d hd
      cases d <;> first | exact Nat.zero_le _ | (cases h1; done)
    · have h1 := List.all_eq_true.mp h d hd
      cases d <;> first | exact Nat.zero_le _ | (cases h1; done)
theorem srt_mem {ds : List D} {d : D} : d ∈ srt ds ↔ d ∈ ds := List.mem_mergeSort
theorem srt_len {ds : List D} : (srt ds).length = ds.length := List.length_mergeSort ds
def menuD : List D := [.none, .bool true, .bool false, .int 0, .int 1, .int (-1), .int 100000000000, .str "", .str "a", .str "A", .str "ab", .str "a b", .str "1a", .str "a1", .str " ", .str "a\n", .str (Txt.mul "z" 20), .str (Txt.mul "z" 21), .str "abcdefgh", .str "abcdefghi",
  .list [], .tuple [], .dict [], .list [.int 0], .list [.int 1, .int 0], .list [.int 0, .str "a"], .list [.str "a", .int 0], .list [.none, .int 0], .list [.int 0, .list [.int 1]], .list [.int 0, .tuple [.int 1]], .list [.bool true], .list [.int 0, .int 1], .list [.int 0, .int 0], .tuple [.int 0, .int 1], .list [.str "a"], .list [.list []],
  .dict [(.str "a", .int 1)], .list [.int 1, .int 2, .int 100000000000], .list [.int (-1)], .str "a_b", .str "aB", .str (Txt.mul "a" 200), .str "e0", .str "0", .str "house", .tuple [.str "house"]]
theorem menu_ok : menuD.all (fun d => gdB d && cpOk 6 d) = true := by decide +kernel
theorem dMul_str {z : Str} {k : Int} : dMul (.str z) (.int k) = if 0 ≤ k ∧ k < 2 ^ 31 ∧ z.length * k.toNat ≤ 16777216 then some (.dat (.str (Txt.mul z k))) else none := rfl
theorem mul_z20 : dMul (.str "z") (.int 20) = some (.dat (.str (Txt.mul "z" 20))) := by rw [dMul_str, if_pos (by decide +kernel)]
theorem mul_z21 : dMul (.str "z") (.int 21) = some (.dat (.str (Txt.mul "z" 21))) := by rw [dMul_str, if_pos (by decide +kernel)]
theorem mul_a200 : dMul (.str "a") (.int 200) = some (.dat (.str (Txt.mul "a" 200))) := by rw [dMul_str, if_pos (by decide +kernel)]
theorem dNeg_int {i : Int} : dNeg (.int i) = some (.dat (.int (-i))) := rfl
theorem dPow_11 : dPow (.int 10) (.int 11) = some (.dat (.int 100000000000)) := by
  show (if CPw 10 11 then some (di (10 ^ (11 : Int).toNat)) else none) = _
  rw [if_pos (by decide)]
  rfl
theorem dAdd_list {x y : List D} : dAdd (.list x) (.list y) = if x.length + y.length ≤ sizeLine then some (.fr (x ++ y)) else none := rfl
theorem le_size {n : Nat} (h : n ≤ 16777216) : n ≤ sizeLine := by rw [sizeLine_eq]; exact h
theorem ret_cp {d : D} {n : Nat} {cs : Cs} {Q : Rv → Cs → Prop} (hl : cs.length = n) (q : Q (cpR d) cs) : Ret n (cpR d) cs (DL.Fin n Q) := by
  subst hl
  cases d with
  | list ds =>
    show Ret _ (.fr ds) _ _
    simp
    exact q
  | _ =>
    show Ret _ (.dat _) _ _
    simp
    exact q
theorem any_em {k : Nat} {b : Int} {cs : Cs} {c : List D} {Q : Rv → Cs → Prop} (hc : cs[k]? = some (some c)) (hg : Gs b c) (hb : b ≤ 10 ^ 19) (h : ∀ (d : D) (c' : List D), Gd d → Gs (b + 100) c' → Q (cpR d) (cs.set k (some c'))) : Em m__law_any [.own k] cs Q := by
  unfold m__law_any
  rw [em_fnM]
  unfold b__law_any
  simp [mul_z20, mul_z21, mul_a200, dNeg_int, dPow_11, dAdd_list, le_size]
  refine pick_em hc hg (by omega) (by simp) (by simp) fun d c2 hd g2 => ?_
  have hm : d ∈ menuD := hd
  have hd' := List.all_eq_true.mp menu_ok d hm
  rw [Bool.and_eq_true] at hd'
  simp only [deg_dat]
  refine em_of (copied_eq 6 d _ hd'.2) ?_
  exact ret_cp (by simp) (h d c2 (gdB_ok hd'.1) g2)

end My
namespace My
open PySem PySem.Spec PyProof.Rows L2 DL
/-! small trees of plain things -/
def tl : D → Bool
  | .none => true
  | .bool _ => true
  | .int i => decide (i.natAbs < 10 ^ 40)
  | .str x => decide (x.length ≤ 10) && x.cps.toList.all fun c => decide (c < 16 ^ 8)
  | _ => false
def tn : Nat → D → Bool
  | n + 1, .list ds => decide (ds.length ≤ 8) && ds.all (tn n)
  | n + 1, .tuple ds => decide (ds.length ≤ 8) && ds.all (tn n)
  | _, d => tl d
theorem tl_fl {d : D} (h : tl d = true) : flB d = true := by
  cases d with
  | str x =>
    obtain ⟨h1, h2⟩ := Bool.and_eq_true_iff.mp h
    have h1' := of_decide_eq_true h1
    show (decide (x.length ≤ 1000) && _) = true
    rw [decide_eq_true (by omega), h2]
    rfl
  | list _ => cases h
  | tuple _ => cases h
  | dict _ => cases h
  | int i => exact h
  | _ => rfl
theorem tl_bulk {d : D} (h : tl d = true) : d.bulk ≤ 10 := by
  cases d with
  | str x => exact of_decide_eq_true (Bool.and_eq_true_iff.mp h).1
  | list _ => cases h
  | tuple _ => cases h
  | dict _ => cases h
  | _ => exact Nat.zero_le _
theorem tn_leaf {d : D} (h : tl d = true) : ∀ n, tn n d = true
  | 0 => by unfold tn; exact h
  | n + 1 => by
    cases d with
    | list _ => cases h
    | tuple _ => cases h
    | _ => exact h
structure TF (n b : Nat) (x : D) : Prop where
  s : x.showable = true
  l : x.leavesShort 41 = true
  b : x.bulk ≤ b
  d : x.depth ≤ n
  h : x.hasDict = false
  p : x.plain = true
theorem tf_leaf {d : D} (h : tl d = true) {n : Nat} : TF n 10 d := by
  have f := tl_fl h
  exact ⟨fl_show f, fl_leaf f, tl_bulk h, by rw [fl_depth f]; exact Nat.zero_le _, fl_dict f, fl_plain f⟩
theorem tf_all {n b : Nat} : ∀ {ds : List D}, (∀ x ∈ ds, TF n b x) → PyData.showableAll ds = true ∧ PyData.leavesShortAll 41 ds = true ∧ PyData.bulkAll ds ≤ (b + 1) * ds.length ∧ PyData.depthAll ds ≤ n ∧ PyData.hasDictAll ds = false ∧ PyData.plainAll ds = true
  | [], _ => ⟨rfl, rfl, Nat.le_refl _, Nat.zero_le _, rfl, rfl⟩
  | d :: ds, h => by
    have a := h d (List.mem_cons_self ..)
    obtain ⟨h1, h2, h3, h4, h5, h6⟩ := tf_all fun x hx => h x (List.mem_cons_of_mem _ hx)
    refine ⟨?_, ?_, ?_, ?_, ?_, ?_⟩
    · rw [PyData.showableAll, a.s, h1]; rfl
    · rw [PyData.leavesShortAll, a.l, h2]; rfl
    · rw [PyData.bulkAll, List.length_cons, Nat.mul_add, Nat.mul_one]
      have := a.b
      omega
    · rw [PyData.depthAll]
      exact Nat.max_le.mpr ⟨a.d, h4⟩
    · rw [PyData.hasDictAll, a.h, h5]; rfl
    · rw [PyData.plainAll, a.p, h6]; rfl
def tB : Nat → Nat
  | 0 => 10
  | n + 1 => 8 * (tB n + 1)
theorem tB_le : ∀ n, 10 ≤ tB n
  | 0 => Nat.le_refl _
  | n + 1 => by
    have := tB_le n
    show 10 ≤ 8 * (tB n + 1)
    omega
theorem TF.mono {n b n' b' : Nat} {d : D} (t : TF n b d) (h1 : n ≤ n') (h2 : b ≤ b') : TF n' b' d := ⟨t.s, t.l, Nat.le_trans t.b h2, Nat.le_trans t.d h1, t.h, t.p⟩
theorem tf_of : ∀ (n : Nat) (d : D), tn n d = true → TF n (tB n) d
  | 0, d, h => by
    unfold tn at h
    exact tf_leaf h
  | n + 1, .list ds, h => by
    obtain ⟨h1, h2⟩ := Bool.and_eq_true_iff.mp (show (decide (ds.length ≤ 8) && ds.all (tn n)) = true from h)
    have h1 := of_decide_eq_true h1
    obtain ⟨a1, a2, a3, a4, a5, a6⟩ := tf_all (n := n) (b := tB n) (ds := ds) fun x hx => tf_of n x (List.all_eq_true.mp h2 x hx)
    refine ⟨a1, a2, ?_, by show PyData.depthAll ds + 1 ≤ n + 1; omega, a5, a6⟩
    have e : (tB n + 1) * ds.length ≤ (tB n + 1) * 8 := Nat.mul_le_mul_left _ h1
    show PyData.bulkAll ds ≤ 8 * (tB n + 1)
    omega
  | n + 1, .tuple ds, h => by
    obtain ⟨h1, h2⟩ := Bool.and_eq_true_iff.mp (show (decide (ds.length ≤ 8) && ds.all (tn n)) = true from h)
    have h1 := of_decide_eq_true h1
    obtain ⟨a1, a2, a3, a4, a5, a6⟩ := tf_all (n := n) (b := tB n) (ds := ds) fun x hx => tf_of n x (List.all_eq_true.mp h2 x hx)
    refine ⟨a1, a2, ?_, by show PyData.depthAll ds + 1 ≤ n + 1; omega, a5, a6⟩
    have e : (tB n + 1) * ds.length ≤ (tB n + 1) * 8 := Nat.mul_le_mul_left _ h1
    show PyData.bulkAll ds ≤ 8 * (tB n + 1)
    omega
  | n + 1, .none, h => (tf_leaf (d := .none) rfl).mono (Nat.le_refl _) (tB_le _)
  | n + 1, .bool b, h => (tf_leaf (d := .bool b) rfl).mono (Nat.le_refl _) (tB_le _)
  | n + 1, .int i, h => (tf_leaf (d := .int i) h).mono (Nat.le_refl _) (tB_le _)
  | n + 1, .str x, h => (tf_leaf (d := .str x) h).mono (Nat.le_refl _) (tB_le _)
  | n + 1, .dict _, h => by cases h
theorem tn_rok {n : Nat} {d : D} (h : tn n d = true) (hn : n ≤ 4) : rOk d = true := by
  have t := tf_of n d h
  have hb : tB n ≤ 45640 := by
    match n, hn with
    | 0, _ => decide
    | 1, _ => decide
    | 2, _ => decide
    | 3, _ => decide
    | 4, _ => decide
  refine rok t.s ?_ (Nat.le_trans t.d (by omega)) ?_
  · have := t.h
    cases d with
    | dict kvs => cases this
    | list ds => show (!PyData.hasDict (.list ds)) = true; rw [this]; rfl
    | tuple ds => show (!PyData.hasDict (.tuple ds)) = true; rw [this]; rfl
    | _ => rfl
  · have := PyData.shown_le_bulk 41 (by decide) d t.l
    have := t.b
    rw [sizeLine_eq]
    omega
theorem tn_mono : ∀ (n : Nat) (d : D), tn n d = true → tn (n + 1) d = true
  | 0, d, h => by
    unfold tn at h
    exact tn_leaf h 1
  | n + 1, .list ds, h => by
    obtain ⟨h1, h2⟩ := Bool.and_eq_true_iff.mp (show (decide (ds.length ≤ 8) && ds.all (tn n)) = true from h)
    show (decide (ds.length ≤ 8) && ds.all (tn (n + 1))) = true
    rw [h1, List.all_eq_true.mpr fun x hx => tn_mono n x (List.all_eq_true.mp h2 x hx)]
    rfl
  | n + 1, .tuple ds, h => by
    obtain ⟨h1, h2⟩ := Bool.and_eq_true_iff.mp (show (decide (ds.length ≤ 8) && ds.all (tn n)) = true from h)
    show (decide (ds.length ≤ 8) && ds.all (tn (n + 1))) = true
    rw [h1, List.all_eq_true.mpr fun x hx => tn_mono n x (List.all_eq_true.mp h2 x hx)]
    rfl
  | n + 1, .none, h => rfl
  | n + 1, .bool b, h => rfl
  | n + 1, .int i, h => h
  | n + 1, .str x, h => h
  | n + 1, .dict _, h => by cases h
theorem tn_tup {n : Nat} {ds : List D} : tn (n + 1) (.tuple ds) = (decide (ds.length ≤ 8) && ds.all (tn n)) := by unfold tn; rfl
theorem tn_lst {n : Nat} {ds : List D} : tn (n + 1) (.list ds) = (decide (ds.length ≤ 8) && ds.all (tn n)) := by unfold tn; rfl
theorem dNe_refl {d : D} (h : d.plain = true) (hd : d.depth ≤ 100) : dNe d d = some (db false) := by
  unfold dNe
  rw [if_pos ⟨h, h, Nat.le_trans (Nat.min_le_left _ _) hd⟩, SeqAt.eqv_refl_plain d h]
  rfl
theorem dEq_refl {d : D} (h : d.plain = true) (hd : d.depth ≤ 100) : dEq d d = some (db true) := by
  unfold dEq
  rw [if_pos ⟨h, h, Nat.le_trans (Nat.min_le_left _ _) hd⟩, SeqAt.eqv_refl_plain d h]
theorem emx_eq {m : MFX} {rs : List Rv} {cs : Cs} {y : RX} (h : Emx m rs cs fun x => x = y) : m rs cs = some y := by
  obtain ⟨a, e, rfl⟩ := wpd_iff.mp h
  exact e
theorem emx_of {m : MFX} {rs : List Rv} {cs : Cs} {y : RX} {Q : RX → Prop} (e : m rs cs = some y) (h : Q y) : Emx m rs cs Q := by
  unfold Emx
  rw [e]
  exact h
theorem okM_of {m : MFX} {rs : List Rv} {cs cs' : Cs} {r : Rv} (e : m rs cs = some (.ok r cs')) : okM m rs cs = some (r, cs') := by
  unfold okM
  rw [e]
  rfl
theorem dNe_str {x y : Str} : dNe (.str x) (.str y) = some (db (!(x == y))) := by
  unfold dNe
  rw [if_pos ⟨rfl, rfl, by show min 0 0 ≤ 100; decide⟩]
  rfl
theorem is1 {d : D} : dIs not d .none = some (db (!isNonD d)) := by cases d <;> rfl
theorem is0 {d : D} : dIs id d .none = some (db (isNonD d)) := by cases d <;> rfl
end My
namespace My
open PySem PySem.Spec PyProof.Rows L2 DL
def b_check_list : MX :=
  (xIf (mTNot (mTru (mU (dIsi "list") (xVar 0)))) (xRaise "InvalidList" (xVar 0)) xNil)
def m_check_list : MFX := fnX 1 b_check_list
noncomputable def b_check_fraction : MX :=
  (xIf (mTNot (mTru (mCallF 1 m_is_fraction (aCons (xVar 0) aNil)))) (xRaise "InvalidFraction" (xVar 0)) xNil)
noncomputable def m_check_fraction : MFX := fnX 1 b_check_fraction
noncomputable def b_fraction_of : MX :=
  (xSq (xIf (mTNot (mTru (mCallF 1 m_is_whole (aCons (xVar 0) aNil)))) (xRaise "InvalidNumber" (xVar 0)) xNil)
  (xSq (xIf (mTOr (mTNot (mTru (mCallF 1 m_is_whole (aCons (xVar 1) aNil)))) (mTB (mB dEq (xVar 1) (xC (.int 0))))) (xRaise "InvalidNumber" (xVar 1)) xNil)
  (xTail (sRet (mCallF 2 m_lowest_of (aCons (xVar 0) (aCons (xVar 1) aNil)))))))
noncomputable def m_fraction_of : MFX := fnX 2 b_fraction_of
def b_less_than : MS :=
  (sRet (mB dLt (mB dMul (mB dIx (xVar 0) (xC (.int 0))) (mB dIx (xVar 1) (xC (.int 1)))) (mB dMul (mB dIx (xVar 1) (xC (.int 0))) (mB dIx (xVar 0) (xC (.int 1))))))
def m_less_than : MF := fnM 2 b_less_than
noncomputable def b_check_fractions : MX :=
  (xSq (xExpr (mCallX 1 m_check_list (aCons (xVar 0) aNil)))
  (xFor (iSeq (xVar 0)) (gNm 1) (xExpr (mCallX 1 m_check_fraction (aCons (xVar 1) aNil)))))
noncomputable def m_check_fractions : MFX := fnX 2 b_check_fractions
noncomputable def b_sum_of : MX :=
  (xSq (xExpr (mCallX 1 m_check_fractions (aCons (xVar 0) aNil)))
  (xTail (sSeq (sSet 1 (xTup (aCons (xC (.int 0)) (aCons (xC (.int 1)) aNil))))
  (sSeq (sFor (iSeq (xVar 0)) (gNm 2) (sSet 1 (mCallF 2 m_plus_of (aCons (xVar 1) (aCons (xVar 2) aNil)))))
  (sRet (xVar 1))))))
noncomputable def m_sum_of : MFX := fnX 3 b_sum_of
noncomputable def b_product_of : MX :=
  (xSq (xExpr (mCallX 1 m_check_fractions (aCons (xVar 0) aNil)))
  (xTail (sSeq (sSet 1 (xTup (aCons (xC (.int 1)) (aCons (xC (.int 1)) aNil))))
  (sSeq (sFor (iSeq (xVar 0)) (gNm 2) (sSet 1 (mCallF 2 m_times_of (aCons (xVar 1) (aCons (xVar 2) aNil)))))
  (sRet (xVar 1))))))
noncomputable def m_product_of : MFX := fnX 3 b_product_of
noncomputable def b_is_less : MX :=
  (xSq (xExpr (mCallX 1 m_check_fraction (aCons (xVar 0) aNil)))
  (xSq (xExpr (mCallX 1 m_check_fraction (aCons (xVar 1) aNil)))
  (xTail (sRet (mCallF 2 m_less_than (aCons (xVar 0) (aCons (xVar 1) aNil)))))))
noncomputable def m_is_less : MFX := fnX 2 b_is_less
noncomputable def b__law_call : MX :=
  (xSq (xIf (mTB (mB dEq (xVar 0) (xC (.int 0)))) (xRet (mCallX 2 m_fraction_of (aCons (xVar 1) (aCons (xC (.int 0)) aNil)))) xNil)
  (xSq (xIf (mTB (mB dEq (xVar 0) (xC (.int 1)))) (xRet (mCallX 2 m_fraction_of (aCons (xC (.int 3)) (aCons (xVar 1) aNil)))) xNil)
  (xSq (xIf (mTB (mB dEq (xVar 0) (xC (.int 2)))) (xRet (mCallX 1 m_sum_of (aCons (xVar 1) aNil))) xNil)
  (xSq (xIf (mTB (mB dEq (xVar 0) (xC (.int 3)))) (xRet (mCallX 1 m_sum_of (aCons (xLst (aCons (xTup (aCons (xC (.int 1)) (aCons (xC (.int 2)) aNil))) (aCons (xVar 1) (aCons (xC .none) aNil)))) aNil))) xNil)
  (xSq (xIf (mTB (mB dEq (xVar 0) (xC (.int 4)))) (xRet (mCallX 1 m_product_of (aCons (xVar 1) aNil))) xNil)
  (xSq (xIf (mTB (mB dEq (xVar 0) (xC (.int 5)))) (xRet (mCallX 1 m_product_of (aCons (xLst (aCons (xTup (aCons (xC (.int 3)) (aCons (xC (.int 1)) aNil))) (aCons (xTup (aCons (xC (.int 0)) (aCons (xC (.int 1)) aNil))) (aCons (xVar 1) (aCons (xTup (aCons (xC (.int 2)) (aCons (xC (.int 4)) aNil))) aNil))))) aNil))) xNil)
  (xSq (xIf (mTB (mB dEq (xVar 0) (xC (.int 6)))) (xRet (mCallX 2 m_is_less (aCons (xVar 1) (aCons (xC .none) aNil)))) xNil)
  (xSq (xIf (mTB (mB dEq (xVar 0) (xC (.int 7)))) (xRet (mCallX 2 m_is_less (aCons (xTup (aCons (xC (.int 1)) (aCons (xC (.int 2)) aNil))) (aCons (xVar 1) aNil)))) xNil)
  (xSq (xIf (mTB (mB dEq (xVar 0) (xC (.int 8)))) (xRet (mCallX 2 m_fraction_of (aCons (xC (.int 0)) (aCons (xVar 1) aNil)))) xNil)
  (xSeq (sSet 2 (mB dAdd (mB dAdd (mB dMul (xLst (aCons (xTup (aCons (xC (.int 1)) (aCons (xC (.int 3)) aNil))) aNil)) (mB dIx (xVar 1) (xC (.int 1)))) (xLst (aCons (mB dIx (xVar 1) (xC (.int 0))) aNil))) (mB dMul (xLst (aCons (xTup (aCons (xC (.int 1)) (aCons (xC (.int 3)) aNil))) aNil)) (mB dSub (xC (.int 12)) (mB dIx (xVar 1) (xC (.int 1)))))))
  (xRet (rIf (mTB (mB dEq (xVar 0) (xC (.int 9)))) (mCallX 1 m_sum_of (aCons (xVar 2) aNil)) (mCallX 1 m_product_of (aCons (xVar 2) aNil))))))))))))))
noncomputable def m__law_call : MFX := fnX 3 b__law_call
noncomputable def b__law_right_call : MX :=
  (xSq (xIf (mTB (mB dEq (xVar 0) (xC (.int 0)))) (xRet (mCallX 2 m_fraction_of (aCons (xVar 1) (aCons (xC (.int 2)) aNil)))) xNil)
  (xRet (rIf (mTB (mB dEq (xVar 0) (xC (.int 6)))) (mCallX 2 m_is_less (aCons (xVar 1) (aCons (xTup (aCons (xC (.int 1)) (aCons (xC (.int 2)) aNil))) aNil))) (mCallX 2 m__law_call (aCons (xVar 0) (aCons (xVar 1) aNil))))))
noncomputable def m__law_right_call : MFX := fnX 2 b__law_right_call
noncomputable def b__law_caught : MS :=
  (sSeq (sOwn 2 (xLst aNil))
  (sSeq (sFor (iSeq (xLst (aCons (xC (.int 0)) (aCons (xC (.int 1)) aNil)))) (gNm 3) (sSeq (sSet 4 (xC .none))
  (sSeq (sTry "SameError" 5 4 (xIf (mTB (mB dEq (xVar 3) (xC (.int 0)))) (xExpr (mCallX 2 m__law_call (aCons (xVar 0) (aCons (xVar 1) aNil)))) (xExpr (mCallX 2 m__law_right_call (aCons (xVar 0) (aCons (xVar 1) aNil))))))
  (sSeq (sSet 6 (xLst (aCons (mIsX "InvalidNumber" (xVar 4)) (aCons (mIsX "InvalidList" (xVar 4)) (aCons (mIsX "InvalidFraction" (xVar 4)) aNil)))))
  (sApp 2 (xLst (aCons (xVar 6) (aCons (mIf (mTB (mIsN id (xVar 4))) (xC .none) (mCall dRepr (aCons (mVal (xVar 4)) aNil))) aNil))))))))
  (sRet (mIf (mTB (mB dEq (mB dIx (xVar 2) (xC (.int 0))) (mB dIx (xVar 2) (xC (.int 1))))) (mB dIx (xVar 2) (xC (.int 0))) (xVar 2)))))
noncomputable def m__law_caught : MF := fnM 7 b__law_caught
noncomputable def b__law_alone : MS :=
  (sSeq (sSet 2 (xC .none))
  (sSeq (sTry "SameError" 3 2 (xExpr (mCallL [("sum_of", m_sum_of), ("product_of", m_product_of)] 1 0 (aCons (xLst (aCons (xVar 1) aNil)) aNil))))
  (sRet (mAnd (mIsX "InvalidFraction" (xVar 2)) (mB dEq (mVal (xVar 2)) (xVar 1))))))
noncomputable def m__law_alone : MF := fnM 4 b__law_alone
noncomputable def b_law : MS :=
  (sSeq (sFor (iRg1 (aCons (xC (.int 3)) aNil)) (gNm 1) (sSeq (sOwn 2 (mCallF 2 m__law_generator (aCons (xVar 0) (aCons (xVar 1) aNil))))
  (sSeq (sSet 3 (mB dAdd (xC (.int 1)) (mCallF 2 m__law_random (aCons (xVar 2) (aCons (mB dPow (xC (.int 10)) (xC (.int 9))) aNil)))))
  (sSeq (sSet 4 (xLst (aCons (xC .none) (aCons (xC (.bool true)) (aCons (xC (.bool false)) (aCons (xC (.str "")) (aCons (xC (.str "1")) (aCons (xC (.dict [])) (aCons (xTup aNil) (aCons (xTup (aCons (xC (.str "a")) aNil)) (aCons (xLst (aCons (xC (.int 1)) (aCons (xC (.int 2)) aNil))) (aCons (xTup (aCons (xC (.int 1)) (aCons (xC (.int 2)) (aCons (xC (.int 3)) aNil)))) (aCons (xTup (aCons (xC (.int 2)) (aCons (xC (.int 4)) aNil))) (aCons (xTup (aCons (xC (.int 1)) (aCons (xC (.int 0)) aNil))) (aCons (xTup (aCons (xC (.int 1)) (aCons (mB dSub (xC (.int 0)) (xC (.int 2))) aNil))) (aCons (xTup (aCons (xC (.int 0)) (aCons (xC (.int 2)) aNil))) (aCons (xTup (aCons (xC (.bool true)) (aCons (xC (.int 2)) aNil))) (aCons (xTup (aCons (xC (.int 1)) (aCons (xC (.bool true)) aNil))) (aCons (xTup (aCons (xVar 3) (aCons (xVar 3) aNil))) (aCons (xTup (aCons (mB dMul (xVar 3) (xC (.int 2))) (aCons (xC (.int 2)) aNil))) aNil))))))))))))))))))))
  (sSeq (sSet 4 (xComp (iSeq (xVar 4)) (gNm 5) (mTB (mB dNe (mCall dRepr (aCons (xVar 5) aNil)) (xC (.str "(1, 1)")))) (xVar 5) [5]))
  (sSeq (sFor (iEn (aCons (xLst (aCons (xC (.int 0)) (aCons (xC (.int 0)) (aCons (xC (.int 1)) (aCons (xC (.int 2)) (aCons (xC (.int 1)) (aCons (xC (.int 2)) (aCons (xC (.int 2)) (aCons (xC (.int 2)) aNil))))))))) aNil)) (gTp 2 (gsCons (gNm 7) (gsCons (gNm 8) gsNil))) (sFor (iSeq (mB dAdd (mB dAdd (xVar 4) (mIf (mTB (mB dEq (xVar 7) (xC (.int 1)))) (xLst (aCons (xC (.int 0)) aNil)) (xLst aNil))) (mIf (mTB (mB dGt (xVar 8) (xC (.int 0)))) (xLst (aCons (xVar 3) (aCons (mB dSub (xC (.int 0)) (xVar 3)) (aCons (xC (.int 0)) aNil)))) (xLst aNil)))) (gNm 5) (sIf (mTOr (mTB (mB dNe (xVar 8) (xC (.int 1)))) (mTNot (mTru (mU (dIsi "list") (xVar 5))))) (sIf (mTB (mB dNe (mCallF 2 m__law_caught (aCons (xVar 7) (aCons (xVar 5) aNil))) (xLst (aCons (xComp (iRg1 (aCons (xC (.int 3)) aNil)) (gNm 10) mYes (mB dEq (xVar 10) (xVar 8)) [10]) (aCons (mCall dRepr (aCons (xVar 5) aNil)) aNil))))) (sRet (xC (.bool false))) sNil) sNil)))
  (sSeq (sFor (iSeq (xLst (aCons (xC (.int 0)) (aCons (xC .none) (aCons (xC (.bool true)) (aCons (xC (.str "0")) (aCons (xLst (aCons (xC (.int 0)) aNil)) aNil))))))) (gNm 5) (sIf (mTB (mB dNe (mCallF 2 m__law_caught (aCons (xC (.int 8)) (aCons (xVar 5) aNil))) (xLst (aCons (xLst (aCons (xC (.bool true)) (aCons (xC (.bool false)) (aCons (xC (.bool false)) aNil)))) (aCons (mCall dRepr (aCons (xVar 5) aNil)) aNil))))) (sRet (xC (.bool false))) sNil))
  (sSeq (sFor (iSeq (mB dAdd (xVar 4) (xLst (aCons (xVar 3) aNil)))) (gNm 5) (sFor (iSeq (xLst (aCons (xC (.int 9)) (aCons (xC (.int 10)) aNil)))) (gNm 7) (sIf (mTB (mB dNe (mCallF 2 m__law_caught (aCons (xVar 7) (aCons (xTup (aCons (xVar 5) (aCons (mCallF 2 m__law_pick (aCons (xVar 2) (aCons (xLst (aCons (xC (.int 0)) (aCons (xC (.int 12)) (aCons (mCallF 2 m__law_random (aCons (xVar 2) (aCons (xC (.int 13)) aNil))) aNil)))) aNil))) aNil))) aNil))) (xLst (aCons (xLst (aCons (xC (.bool false)) (aCons (xC (.bool false)) (aCons (xC (.bool true)) aNil)))) (aCons (mCall dRepr (aCons (xVar 5) aNil)) aNil))))) (sRet (xC (.bool false))) sNil)))
  (sSeq (sFor (iSeq (xLst (aCons (xC (fnD "sum_of")) (aCons (xC (fnD "product_of")) aNil)))) (gNm 6) (sIf (mTNot (mTru (mCallF 2 m__law_alone (aCons (xVar 6) (aCons (xTup (aCons (xC (.int 2)) (aCons (xC (.int 4)) aNil))) aNil))))) (sRet (xC (.bool false))) sNil))
  (sSeq (sFor (iSeq (xLst (aCons (xTup (aCons (xC (.int 1)) (aCons (mB dSub (xC (.int 0)) (xVar 3)) aNil))) (aCons (xTup (aCons (xC (.int 2)) (aCons (xLst (aCons (xTup (aCons (xVar 3) (aCons (xC (.int 1)) aNil))) aNil)) aNil))) aNil)))) (gTp 2 (gsCons (gNm 7) (gsCons (gNm 9) gsNil))) (sIf (mTB (mB dNe (mCallF 2 m__law_caught (aCons (xVar 7) (aCons (xVar 9) aNil))) (xLst (aCons (mB dMul (xLst (aCons (xC (.bool false)) aNil)) (xC (.int 3))) (aCons (xC .none) aNil))))) (sRet (xC (.bool false))) sNil))
  (sIf (mTB (mB dNe (mCallF 2 m__law_caught (aCons (xC (.int 3)) (aCons (xTup (aCons (xVar 3) (aCons (xC (.int 1)) aNil))) aNil))) (xLst (aCons (xLst (aCons (xC (.bool false)) (aCons (xC (.bool false)) (aCons (xC (.bool true)) aNil)))) (aCons (mCall dRepr (aCons (xC .none) aNil)) aNil))))) (sRet (xC (.bool false))) sNil)))))))))))
  (sRet (xC (.bool true))))
noncomputable def m_law : MF := fnM 11 b_law
end My
namespace My
open PySem PySem.Spec PyProof.Rows L2 DL
theorem int_or (d : D) : (∃ p, d = .int p) ∨ wholeB d = false := by cases d <;> first | exact .inl ⟨_, rfl⟩ | exact .inr rfl
def isL : D → Bool
  | .list _ => true
  | _ => false
theorem isi_L (d : D) : dIsi "list" d = some (db (isL d)) := by
  rw [isi_list]
  cases d <;> rfl
/-! fraction_of -/
theorem fo_a {a b : D} {cs : Cs} (h : wholeB a = false) : m_fraction_of [.dat a, .dat b] cs = some (.ex "InvalidNumber" a cs) := by
  refine emx_eq ?_
  unfold m_fraction_of
  rw [emx_fnX]
  unfold b_fraction_of
  simp
  refine em_of is_whole_eq ?_
  simp [h]
theorem fo_b {i : Int} {b : D} {cs : Cs} (h : wholeB b = false ∨ b = .int 0) : m_fraction_of [.dat (.int i), .dat b] cs = some (.ex "InvalidNumber" b cs) := by
  refine emx_eq ?_
  unfold m_fraction_of
  rw [emx_fnX]
  unfold b_fraction_of
  simp
  refine em_of is_whole_eq ?_
  simp [wholeB]
  refine em_of is_whole_eq ?_
  rcases h with h | rfl
  · simp [h]
  · simp [wholeB, fdEq_int]
theorem fo_ok {i j : Int} {cs : Cs} (hj : j ≠ 0) (hz : j.natAbs < 2 ^ 8000) : m_fraction_of [.dat (.int i), .dat (.int j)] cs = some (.ok (.dat (.tuple [.int (nfA i j), .int (nfB i j)])) cs) := by
  refine emx_eq ?_
  unfold m_fraction_of
  rw [emx_fnX]
  unfold b_fraction_of
  simp
  refine em_of is_whole_eq ?_
  simp [wholeB]
  refine em_of is_whole_eq ?_
  simp [wholeB, fdEq_int, hj]
  refine em_of (lowest_eq hj hz) ?_
  simp
/-! check_fractions -/
theorem cl_bad {d : D} {cs : Cs} (h : isL d = false) : m_check_list [.dat d] cs = some (.ex "InvalidList" d cs) := by
  refine emx_eq ?_
  unfold m_check_list
  rw [emx_fnX]
  unfold b_check_list
  simp [isi_L, h]
theorem cl_ok {ds : List D} {cs : Cs} : m_check_list [.dat (.list ds)] cs = some (.ok (.dat .none) cs) := by
  refine emx_eq ?_
  unfold m_check_list
  rw [emx_fnX]
  unfold b_check_list
  simp [isi_L, isL]
theorem cf_bad {d : D} {cs : Cs} (h : fracB d = false) : m_check_fraction [.dat d] cs = some (.ex "InvalidFraction" d cs) := by
  refine emx_eq ?_
  unfold m_check_fraction
  rw [emx_fnX]
  unfold b_check_fraction
  simp
  refine em_of is_fraction_eq ?_
  simp [h]
theorem cf_ok {d : D} {cs : Cs} (h : fracB d = true) : m_check_fraction [.dat d] cs = some (.ok (.dat .none) cs) := by
  refine emx_eq ?_
  unfold m_check_fraction
  rw [emx_fnX]
  unfold b_check_fraction
  simp
  refine em_of is_fraction_eq ?_
  simp [h]
/-- the first that is none -/
theorem each_bad {x : D} (hx : fracB x = false) {n0 : Nat} {cs : Cs} {QX : XOu → Prop} {v : D} : ∀ {ds : List D} {es : List D} {o : Option Rv}, (∀ d ∈ ds, fracB d = true) → (∀ ρ, QX (.ex "InvalidFraction" x ρ cs)) → Elx (gNm 1) (xExpr (mCallX 1 m_check_fraction (aCons (xVar 1) aNil))) n0 (ds ++ x :: es) [some (.dat v), o] cs QX
  | [], es, o, _, h => by
    rw [List.nil_append, elx_cons]
    simp
    refine emx_of (cf_bad hx) ?_
    simp
    exact h _
  | d :: ds, es, o, ha, h => by
    rw [List.cons_append, elx_cons]
    simp
    refine emx_of (cf_ok (ha d (List.mem_cons_self ..))) ?_
    simp
    exact each_bad hx (fun y hy => ha y (List.mem_cons_of_mem _ hy)) h
theorem each_ok {n0 : Nat} {cs : Cs} {QX : XOu → Prop} {v : D} : ∀ {ds : List D} {o : Option Rv}, (∀ d ∈ ds, fracB d = true) → (∀ ρ, QX (.out (.nx ρ cs))) → Elx (gNm 1) (xExpr (mCallX 1 m_check_fraction (aCons (xVar 1) aNil))) n0 ds [some (.dat v), o] cs QX
  | [], o, _, h => h _
  | d :: ds, o, ha, h => by
    rw [elx_cons]
    simp
    refine emx_of (cf_ok (ha d (List.mem_cons_self ..))) ?_
    simp
    exact each_ok (fun y hy => ha y (List.mem_cons_of_mem _ hy)) h
theorem cfs_list {d : D} {cs : Cs} (h : isL d = false) : m_check_fractions [.dat d] cs = some (.ex "InvalidList" d cs) := by
  refine emx_eq ?_
  unfold m_check_fractions
  rw [emx_fnX]
  unfold b_check_fractions
  simp
  refine emx_of (cl_bad h) ?_
  simp
theorem cfs_bad {ds es : List D} {x : D} {cs : Cs} (ha : ∀ d ∈ ds, fracB d = true) (hx : fracB x = false) : m_check_fractions [.dat (.list (ds ++ x :: es))] cs = some (.ex "InvalidFraction" x cs) := by
  refine emx_eq ?_
  unfold m_check_fractions
  rw [emx_fnX]
  unfold b_check_fractions
  simp
  refine emx_of cl_ok ?_
  simp
  refine each_bad hx ha fun ρ => ?_
  simp
theorem cfs_ok {ds : List D} {cs : Cs} (ha : ∀ d ∈ ds, fracB d = true) : m_check_fractions [.dat (.list ds)] cs = some (.ok (.dat .none) cs) := by
  refine emx_eq ?_
  unfold m_check_fractions
  rw [emx_fnX]
  unfold b_check_fractions
  simp
  refine emx_of cl_ok ?_
  simp
  refine each_ok ha fun ρ => ?_
  simp
/-! sum_of, product_of, is_less -/
theorem so_ex {d x : D} {nm : Str} (h : ∀ cs, m_check_fractions [.dat d] cs = some (.ex nm x cs)) (cs : Cs) : m_sum_of [.dat d] cs = some (.ex nm x cs) := by
  refine emx_eq ?_
  unfold m_sum_of
  rw [emx_fnX]
  unfold b_sum_of
  simp
  refine emx_of (h _) ?_
  simp
theorem po_ex {d x : D} {nm : Str} (h : ∀ cs, m_check_fractions [.dat d] cs = some (.ex nm x cs)) (cs : Cs) : m_product_of [.dat d] cs = some (.ex nm x cs) := by
  refine emx_eq ?_
  unfold m_product_of
  rw [emx_fnX]
  unfold b_product_of
  simp
  refine emx_of (h _) ?_
  simp
theorem so_one {n : Int} (hn : n.natAbs < 2 ^ 40) (cs : Cs) : ∃ d, m_sum_of [.dat (.list [.tuple [.int n, .int 1]])] cs = some (.ok (.dat d) cs) := by
  have fr : fracB (.tuple [.int n, .int 1]) = true := by
    unfold fracB
    simp
  suffices h : Emx m_sum_of [.dat (.list [.tuple [.int n, .int 1]])] cs fun x => ∃ d, x = .ok (.dat d) cs by
    obtain ⟨x, e, r, rfl⟩ := wpd_iff.mp h
    exact ⟨r, e⟩
  unfold m_sum_of
  rw [emx_fnX]
  unfold b_sum_of
  simp
  refine emx_of (cfs_ok (by simpa using fr)) ?_
  simp [two_fit]
  rw [el_cons]
  simp
  refine em_of (plus_eq (n := 40) (by decide) (by decide) hn (by decide) (by decide) (by decide) (by decide)) ?_
  simp [Lp]
theorem il_a {a b : D} {cs : Cs} (h : fracB a = false) : m_is_less [.dat a, .dat b] cs = some (.ex "InvalidFraction" a cs) := by
  refine emx_eq ?_
  unfold m_is_less
  rw [emx_fnX]
  unfold b_is_less
  simp
  refine emx_of (cf_bad h) ?_
  simp
theorem il_b {a b : D} {cs : Cs} (h : fracB a = true) (hb : fracB b = false) : m_is_less [.dat a, .dat b] cs = some (.ex "InvalidFraction" b cs) := by
  refine emx_eq ?_
  unfold m_is_less
  rw [emx_fnX]
  unfold b_is_less
  simp
  refine emx_of (cf_ok h) ?_
  simp
  refine emx_of (cf_bad hb) ?_
  simp
end My
namespace My
open PySem PySem.Spec PyProof.Rows L2 DL
def K3 (nm : Str) (a b c : Bool) : Prop := subN nm "SameError" = true ∧ subN nm "InvalidNumber" = a ∧ subN nm "InvalidList" = b ∧ subN nm "InvalidFraction" = c
theorem k3n : K3 "InvalidNumber" true false false := by unfold K3; decide +kernel
theorem k3l : K3 "InvalidList" false true false := by unfold K3; decide +kernel
theorem k3f : K3 "InvalidFraction" false false true := by unfold K3; decide +kernel
theorem ix2_0 {a b : D} : dIx (.list [a, b]) (.int 0) = some (.dat a) := rfl
theorem ix2_1 {a b : D} : dIx (.list [a, b]) (.int 1) = some (.dat b) := rfl
theorem plain3 {a b c : Bool} {s : Str} : PyData.plain (.list [.list [.bool a, .bool b, .bool c], .str s]) = true := rfl
theorem plain3n {a b c : Bool} : PyData.plain (.list [.list [.bool a, .bool b, .bool c], .none]) = true := rfl
theorem caught_ex {door : Int} {other x : D} {nm : Str} {a b c : Bool} (hk : K3 nm a b c) (hr : rOk x = true) (h1 : ∀ cs, m__law_call [.dat (.int door), .dat other] cs = some (.ex nm x cs)) (h2 : ∀ cs, m__law_right_call [.dat (.int door), .dat other] cs = some (.ex nm x cs)) (cs : Cs) :
    m__law_caught [.dat (.int door), .dat other] cs = some (.dat (.list [.list [.bool a, .bool b, .bool c], .str x.shown]), cs) := by
  obtain ⟨k0, k1, k2, k3⟩ := hk
  refine em_eq ?_
  unfold m__law_caught
  rw [em_fnM]
  unfold b__law_caught
  simp [le_size]
  rw [el_cons]
  simp [fdEq_int]
  refine emx_of (h1 _) ?_
  simp [k0, k1, k2, k3, le_size, repr_ok hr, Lp]
  rw [el_cons]
  simp [fdEq_int]
  refine ⟨le_size (by decide), ?_⟩
  refine emx_of (h2 _) ?_
  simp [k0, k1, k2, k3, le_size, repr_ok hr, Lp]
  rw [ix_own (c := [.list [.list [.bool a, .bool b, .bool c], .str x.shown], .list [.list [.bool a, .bool b, .bool c], .str x.shown]]) (by simp), ix2_0]
  simp
  rw [ix_own (c := [.list [.list [.bool a, .bool b, .bool c], .str x.shown], .list [.list [.bool a, .bool b, .bool c], .str x.shown]]) (by simp), ix2_1]
  simp [dEq_refl plain3 (by show 2 ≤ 100; decide)]
  rw [ix_own (c := [.list [.list [.bool a, .bool b, .bool c], .str x.shown], .list [.list [.bool a, .bool b, .bool c], .str x.shown]]) (by simp), ix2_0]
  simp
  exact le_size (by decide)
theorem caught_ok {door : Int} {other : D} (h1 : ∀ cs, ∃ r, m__law_call [.dat (.int door), .dat other] cs = some (.ok r cs)) (h2 : ∀ cs, ∃ r, m__law_right_call [.dat (.int door), .dat other] cs = some (.ok r cs)) (cs : Cs) :
    m__law_caught [.dat (.int door), .dat other] cs = some (.dat (.list [.list [.bool false, .bool false, .bool false], .none]), cs) := by
  refine em_eq ?_
  unfold m__law_caught
  rw [em_fnM]
  unfold b__law_caught
  simp [le_size]
  rw [el_cons]
  simp [fdEq_int]
  obtain ⟨r, e⟩ := h1 (cs ++ [some []])
  refine emx_of e ?_
  simp [le_size, Lp, isNonD]
  rw [el_cons]
  simp [fdEq_int]
  obtain ⟨r', e'⟩ := h2 (cs ++ [some [.list [.list [.bool false, .bool false, .bool false], .none]]])
  refine ⟨le_size (by decide), ?_⟩
  refine emx_of e' ?_
  simp [le_size, Lp, isNonD]
  rw [ix_own (c := [.list [.list [.bool false, .bool false, .bool false], .none], .list [.list [.bool false, .bool false, .bool false], .none]]) (by simp), ix2_0]
  simp
  rw [ix_own (c := [.list [.list [.bool false, .bool false, .bool false], .none], .list [.list [.bool false, .bool false, .bool false], .none]]) (by simp), ix2_1]
  simp [dEq_refl plain3n (by show 2 ≤ 100; decide)]
  rw [ix_own (c := [.list [.list [.bool false, .bool false, .bool false], .none], .list [.list [.bool false, .bool false, .bool false], .none]]) (by simp), ix2_0]
  simp
  exact le_size (by decide)
/-! the doors -/
theorem right_of {door : Int} {other x : D} {nm : Str} (h0 : door ≠ 0) (h6 : door ≠ 6) (h : ∀ cs, m__law_call [.dat (.int door), .dat other] cs = some (.ex nm x cs)) (cs : Cs) : m__law_right_call [.dat (.int door), .dat other] cs = some (.ex nm x cs) := by
  refine emx_eq ?_
  unfold m__law_right_call
  rw [emx_fnX]
  unfold b__law_right_call
  simp [fdEq_int, h0, h6]
  refine emx_of (h _) ?_
  simp
theorem right_ok {door : Int} {other : D} (h0 : door ≠ 0) (h6 : door ≠ 6) (h : ∀ cs, ∃ d, m__law_call [.dat (.int door), .dat other] cs = some (.ok (.dat d) cs)) (cs : Cs) : ∃ r, m__law_right_call [.dat (.int door), .dat other] cs = some (.ok r cs) := by
  obtain ⟨r, e⟩ := h cs
  refine ⟨.dat r, emx_eq ?_⟩
  unfold m__law_right_call
  rw [emx_fnX]
  unfold b__law_right_call
  simp [fdEq_int, h0, h6]
  refine emx_of e ?_
  simp
theorem call0 {x : D} (h : wholeB x = false) (cs : Cs) : m__law_call [.dat (.int 0), .dat x] cs = some (.ex "InvalidNumber" x cs) := by
  refine emx_eq ?_
  unfold m__law_call
  rw [emx_fnX]
  unfold b__law_call
  simp [fdEq_int]
  refine emx_of (fo_a h) ?_
  simp
theorem rcall0 {x : D} (h : wholeB x = false) (cs : Cs) : m__law_right_call [.dat (.int 0), .dat x] cs = some (.ex "InvalidNumber" x cs) := by
  refine emx_eq ?_
  unfold m__law_right_call
  rw [emx_fnX]
  unfold b__law_right_call
  simp [fdEq_int]
  refine emx_of (fo_a h) ?_
  simp
theorem call1 {x : D} (h : wholeB x = false ∨ x = .int 0) (cs : Cs) : m__law_call [.dat (.int 1), .dat x] cs = some (.ex "InvalidNumber" x cs) := by
  refine emx_eq ?_
  unfold m__law_call
  rw [emx_fnX]
  unfold b__law_call
  simp [fdEq_int]
  refine emx_of (fo_b h) ?_
  simp
theorem call1_ok {j : Int} (hj : j ≠ 0) (hz : j.natAbs < 2 ^ 8000) (cs : Cs) : ∃ d, m__law_call [.dat (.int 1), .dat (.int j)] cs = some (.ok (.dat d) cs) := by
  refine ⟨.tuple [.int (nfA 3 j), .int (nfB 3 j)], emx_eq ?_⟩
  unfold m__law_call
  rw [emx_fnX]
  unfold b__law_call
  simp [fdEq_int]
  refine emx_of (fo_ok hj hz) ?_
  simp
theorem call8 {x : D} (h : wholeB x = false ∨ x = .int 0) (cs : Cs) : m__law_call [.dat (.int 8), .dat x] cs = some (.ex "InvalidNumber" x cs) := by
  refine emx_eq ?_
  unfold m__law_call
  rw [emx_fnX]
  unfold b__law_call
  simp [fdEq_int]
  refine emx_of (fo_b h) ?_
  simp
theorem call2 {x : D} (h : isL x = false) (cs : Cs) : m__law_call [.dat (.int 2), .dat x] cs = some (.ex "InvalidList" x cs) := by
  refine emx_eq ?_
  unfold m__law_call
  rw [emx_fnX]
  unfold b__law_call
  simp [fdEq_int]
  refine emx_of (so_ex (fun cs => cfs_list h) _) ?_
  simp
theorem call4 {x : D} (h : isL x = false) (cs : Cs) : m__law_call [.dat (.int 4), .dat x] cs = some (.ex "InvalidList" x cs) := by
  refine emx_eq ?_
  unfold m__law_call
  rw [emx_fnX]
  unfold b__law_call
  simp [fdEq_int]
  refine emx_of (po_ex (fun cs => cfs_list h) _) ?_
  simp
theorem f12 : fracB (.tuple [.int 1, .int 2]) = true := by decide +kernel
theorem f31 : fracB (.tuple [.int 3, .int 1]) = true := by decide +kernel
theorem f01 : fracB (.tuple [.int 0, .int 1]) = true := by decide +kernel
theorem f13 : fracB (.tuple [.int 1, .int 3]) = true := by decide +kernel
theorem call3 {x : D} (h : fracB x = false) (cs : Cs) : m__law_call [.dat (.int 3), .dat x] cs = some (.ex "InvalidFraction" x cs) := by
  refine emx_eq ?_
  unfold m__law_call
  rw [emx_fnX]
  unfold b__law_call
  simp [fdEq_int, le_size]
  refine emx_of (so_ex (fun cs => cfs_bad (ds := [.tuple [.int 1, .int 2]]) (es := [.none]) (by simp [f12]) h) _) ?_
  simp
theorem call3n {x : D} (h : fracB x = true) (cs : Cs) : m__law_call [.dat (.int 3), .dat x] cs = some (.ex "InvalidFraction" .none cs) := by
  refine emx_eq ?_
  unfold m__law_call
  rw [emx_fnX]
  unfold b__law_call
  simp [fdEq_int, le_size]
  refine emx_of (so_ex (fun cs => cfs_bad (ds := [.tuple [.int 1, .int 2], x]) (es := []) (x := .none) (by simp [f12, h]) rfl) _) ?_
  simp
theorem call5 {x : D} (h : fracB x = false) (cs : Cs) : m__law_call [.dat (.int 5), .dat x] cs = some (.ex "InvalidFraction" x cs) := by
  refine emx_eq ?_
  unfold m__law_call
  rw [emx_fnX]
  unfold b__law_call
  simp [fdEq_int, le_size]
  refine emx_of (po_ex (fun cs => cfs_bad (ds := [.tuple [.int 3, .int 1], .tuple [.int 0, .int 1]]) (es := [.tuple [.int 2, .int 4]]) (by simp [f31, f01]) h) _) ?_
  simp
theorem call6 {x : D} (h : fracB x = false) (cs : Cs) : m__law_call [.dat (.int 6), .dat x] cs = some (.ex "InvalidFraction" x cs) := by
  refine emx_eq ?_
  unfold m__law_call
  rw [emx_fnX]
  unfold b__law_call
  simp [fdEq_int, le_size]
  refine emx_of (il_a h) ?_
  simp
theorem rcall6 {x : D} (h : fracB x = false) (cs : Cs) : m__law_right_call [.dat (.int 6), .dat x] cs = some (.ex "InvalidFraction" x cs) := by
  refine emx_eq ?_
  unfold m__law_right_call
  rw [emx_fnX]
  unfold b__law_right_call
  simp [fdEq_int, le_size]
  refine emx_of (il_a h) ?_
  simp
theorem call7 {x : D} (h : fracB x = false) (cs : Cs) : m__law_call [.dat (.int 7), .dat x] cs = some (.ex "InvalidFraction" x cs) := by
  refine emx_eq ?_
  unfold m__law_call
  rw [emx_fnX]
  unfold b__law_call
  simp [fdEq_int, le_size]
  refine emx_of (il_b f12 h) ?_
  simp
theorem call2_ok {n : Int} (hn : n.natAbs < 2 ^ 40) (cs : Cs) : ∃ d, m__law_call [.dat (.int 2), .dat (.list [.tuple [.int n, .int 1]])] cs = some (.ok (.dat d) cs) := by
  have one : ∃ d, m_sum_of [.dat (.list [.tuple [.int n, .int 1]])] cs = some (.ok (.dat d) cs) := so_one hn cs
  obtain ⟨d, e⟩ := one
  refine ⟨d, emx_eq ?_⟩
  unfold m__law_call
  rw [emx_fnX]
  unfold b__law_call
  simp [fdEq_int]
  refine emx_of e ?_
  simp
theorem rep13 {n : Nat} : (List.replicate n [PyData.tuple [.int 1, .int 3]]).flatten = List.replicate n (.tuple [.int 1, .int 3]) := by
  induction n with
  | zero => rfl
  | succ n ih => rw [List.replicate_succ, List.flatten_cons, ih]; rfl
theorem dMul_list {ds : List D} {k : Int} (h : 0 ≤ k ∧ k < 2 ^ 31 ∧ ds.length * k.toNat ≤ sizeLine) : dMul (.list ds) (.int k) = some (.fr (List.replicate k.toNat ds).flatten) := if_pos h
theorem call9 {x : D} {n : Int} {door : Int} (hd : door = 9 ∨ door = 10) (h : fracB x = false) (h0 : 0 ≤ n) (h1 : n ≤ 12) (cs : Cs) : m__law_call [.dat (.int door), .dat (.tuple [x, .int n])] cs = some (.ex "InvalidFraction" x cs) := by
  refine emx_eq ?_
  unfold m__law_call
  rw [emx_fnX]
  unfold b__law_call
  have m1 : dMul (.list [.tuple [.int 1, .int 3]]) (.int n) = some (.fr (List.replicate n.toNat (.tuple [.int 1, .int 3]))) := by
    rw [dMul_list ⟨h0, by omega, by rw [sizeLine_eq]; show 1 * n.toNat ≤ _; omega⟩, rep13]
  have m2 : dMul (.list [.tuple [.int 1, .int 3]]) (.int (12 - n)) = some (.fr (List.replicate (12 - n).toNat (.tuple [.int 1, .int 3]))) := by
    rw [dMul_list ⟨by omega, by omega, by rw [sizeLine_eq]; show 1 * (12 - n).toNat ≤ _; omega⟩, rep13]
  have z1 : n.toNat + 1 ≤ sizeLine := le_size (by omega)
  have z2 : n.toNat + 1 + (12 - n).toNat ≤ sizeLine := le_size (by omega)
  have fr : ∀ d ∈ List.replicate n.toNat (PyData.tuple [.int 1, .int 3]), fracB d = true := fun d hd => by
    rw [(List.mem_replicate.mp hd).2]
    exact f13
  have e : List.replicate n.toNat (PyData.tuple [.int 1, .int 3]) ++ [x] ++ List.replicate (12 - n).toNat (PyData.tuple [.int 1, .int 3]) = List.replicate n.toNat (PyData.tuple [.int 1, .int 3]) ++ x :: List.replicate (12 - n).toNat (PyData.tuple [.int 1, .int 3]) := by simp
  rcases hd with rfl | rfl
  · simp [fdEq_int, le_size, dIx_t0, dIx_t1, m1, m2, dAdd_list, z1, z2, dSub_int]
    refine emx_of (so_ex (fun cs => cfs_bad fr h) _) ?_
    simp
  · simp [fdEq_int, le_size, dIx_t0, dIx_t1, m1, m2, dAdd_list, z1, z2, dSub_int]
    refine emx_of (po_ex (fun cs => cfs_bad fr h) _) ?_
    simp
theorem bad24 : fracB (.tuple [.int 2, .int 4]) = false := by decide +kernel
theorem alone_eq {nm : Str} (h : nm = "sum_of" ∨ nm = "product_of") (cs : Cs) : m__law_alone [.dat (fnD nm), .dat (.tuple [.int 2, .int 4])] cs = some (db true, cs) := by
  refine em_eq ?_
  unfold m__law_alone
  rw [em_fnM]
  unfold b__law_alone
  have go : ∀ m : MFX, (∀ cs, m [.dat (.list [.tuple [.int 2, .int 4]])] cs = some (.ex "InvalidFraction" (.tuple [.int 2, .int 4]) cs)) → ∀ QR : RX → Prop, QR (.ex "InvalidFraction" (.tuple [.int 2, .int 4]) cs) → Emx m [.dat (.list [.tuple [.int 2, .int 4]])] cs QR := fun m hm QR q => emx_of (hm _) q
  have l1 : List.lookup ("sum_of" : Str) [(("sum_of" : Str), m_sum_of), ("product_of", m_product_of)] = some m_sum_of := by rfl
  have l2 : List.lookup ("product_of" : Str) [(("sum_of" : Str), m_sum_of), ("product_of", m_product_of)] = some m_product_of := by rfl
  rcases h with rfl | rfl
  · simp [le_size, l1]
    refine go _ (fun cs => so_ex (fun cs => cfs_bad (ds := []) (by simp) bad24) cs) _ ?_
    simp [k3f.1, k3f.2.2.2, dEq_refl (d := .tuple [.int 2, .int 4]) rfl (by show 1 ≤ 100; decide)]
  · simp [le_size, l2]
    refine go _ (fun cs => po_ex (fun cs => cfs_bad (ds := []) (by simp) bad24) cs) _ ?_
    simp [k3f.1, k3f.2.2.2, dEq_refl (d := .tuple [.int 2, .int 4]) rfl (by show 1 ≤ 100; decide)]
end My
namespace My
open PySem PySem.Spec PyProof.Rows L2 DL
def base16 : List D := [.none, .bool true, .bool false, .str "", .str "1", .dict [], .tuple [], .tuple [.str "a"], .list [.int 1, .int 2], .tuple [.int 1, .int 2, .int 3], .tuple [.int 2, .int 4], .tuple [.int 1, .int 0], .tuple [.int 1, .int (-2)], .tuple [.int 0, .int 2], .tuple [.bool true, .int 2], .tuple [.int 1, .bool true]]
theorem base_ok : base16.all (fun d => rOk d && !wholeB d && !fracB d) = true := by decide +kernel
def S0 (n : Int) : List D := base16 ++ [.tuple [.int n, .int n], .tuple [.int (n * 2), .int 2]]
theorem pair_ok {a b : Int} (ha : a.natAbs < 10 ^ 40) (hb : b.natAbs < 10 ^ 40) : rOk (.tuple [.int a, .int b]) = true := by
  refine tn_rok (n := 1) ?_ (by decide)
  rw [tn_tup]
  have e1 : tn 0 (.int a) = true := tn_leaf (d := .int a) (show decide (a.natAbs < 10 ^ 40) = true from decide_eq_true ha) 0
  have e2 : tn 0 (.int b) = true := tn_leaf (d := .int b) (show decide (b.natAbs < 10 ^ 40) = true from decide_eq_true hb) 0
  simp [e1, e2]
theorem int_ok {a : Int} (ha : a.natAbs < 10 ^ 40) : rOk (.int a) = true := tn_rok (n := 0) (tn_leaf (d := .int a) (show decide (a.natAbs < 10 ^ 40) = true from decide_eq_true ha) 0) (by decide)
structure Nb (n : Int) : Prop where
  lo : 1 ≤ n
  hi : n ≤ 10 ^ 9
theorem s0_ok {n : Int} (h : Nb n) : ∀ d ∈ S0 n, rOk d = true := by
  have h1 := h.lo
  have h2 := h.hi
  intro d hd
  rcases List.mem_append.mp hd with z | z
  · have := List.all_eq_true.mp base_ok d z
    simp at this
    exact this.1.1
  · simp at z
    rcases z with rfl | rfl
    · exact pair_ok (by omega) (by omega)
    · exact pair_ok (by omega) (by omega)
def one1 (d : D) : Bool := !(d.shown == ("(1, 1)" : Str))
structure Odd (d : D) : Prop where
  r : rOk d = true
  w : wholeB d = false
  f : fracB d = false
theorem strange_ok {n : Int} (h : Nb n) : ∀ d ∈ (S0 n).filter one1, Odd d := by
  have h1 := h.lo
  have h2 := h.hi
  intro d hd
  obtain ⟨hm, ho⟩ := List.mem_filter.mp hd
  refine ⟨s0_ok h d hm, ?_, ?_⟩
  · rcases List.mem_append.mp hm with z | z
    · have := List.all_eq_true.mp base_ok d z
      simp at this
      exact this.1.2
    · simp at z
      rcases z with rfl | rfl <;> rfl
  · rcases List.mem_append.mp hm with z | z
    · have := List.all_eq_true.mp base_ok d z
      simp at this
      exact this.2
    · simp at z
      rcases z with rfl | rfl
      · have n1 : n ≠ 1 := fun e => by
          subst e
          revert ho
          decide +kernel
        show (decide (1 ≤ n) && ((Int.gcd n n : Int) == 1)) = false
        rw [Int.gcd_self]
        have : (((n.natAbs : Nat) : Int) == 1) = false := by
          rw [beq_eq_false_iff_ne]
          omega
        rw [this, Bool.and_false]
      · show (decide (1 ≤ (2 : Int)) && ((Int.gcd (n * 2) 2 : Int) == 1)) = false
        have e : Int.gcd (n * 2) (1 * 2) = Int.gcd n 1 * (2 : Int).natAbs := Int.gcd_mul_right ..
        have e2 : Int.gcd n 1 = 1 := by simp
        rw [e2] at e
        rw [show Int.gcd (n * 2) 2 = 2 from e]
        rfl
/-- what each door tells -/
def Good (door kind : Int) (d : D) : Prop := rOk d = true ∧ match kind with
  | 0 => wholeB d = false ∨ (door = 1 ∧ d = .int 0)
  | 1 => isL d = false
  | _ => fracB d = false
def told (kind : Int) (d : D) : D := .list [.list [.bool (0 == kind), .bool (1 == kind), .bool (2 == kind)], .str d.shown]
def Door (door kind : Int) : Prop := ∀ (d : D), Good door kind d → ∀ cs, m__law_caught [.dat (.int door), .dat d] cs = some (.dat (told kind d), cs)
theorem door0 : Door 0 0 := fun d ⟨hr, g⟩ cs => by
  have g' : wholeB d = false := by
    rcases g with g | ⟨z, _⟩
    · exact g
    · cases z
  exact caught_ex k3n hr (fun cs => call0 g' cs) (fun cs => rcall0 g' cs) cs
theorem door1 : Door 1 0 := fun d ⟨hr, g⟩ cs => by
  have g' : wholeB d = false ∨ d = .int 0 := g.imp id fun z => z.2
  exact caught_ex k3n hr (fun cs => call1 g' cs) (right_of (by decide) (by decide) fun cs => call1 g' cs) cs
theorem door2 : Door 2 1 := fun d ⟨hr, g⟩ cs => caught_ex k3l hr (fun cs => call2 g cs) (right_of (by decide) (by decide) fun cs => call2 g cs) cs
theorem door3 : Door 3 2 := fun d ⟨hr, g⟩ cs => caught_ex k3f hr (fun cs => call3 g cs) (right_of (by decide) (by decide) fun cs => call3 g cs) cs
theorem door4 : Door 4 1 := fun d ⟨hr, g⟩ cs => caught_ex k3l hr (fun cs => call4 g cs) (right_of (by decide) (by decide) fun cs => call4 g cs) cs
theorem door5 : Door 5 2 := fun d ⟨hr, g⟩ cs => caught_ex k3f hr (fun cs => call5 g cs) (right_of (by decide) (by decide) fun cs => call5 g cs) cs
theorem door6 : Door 6 2 := fun d ⟨hr, g⟩ cs => caught_ex k3f hr (fun cs => call6 g cs) (fun cs => rcall6 g cs) cs
theorem door7 : Door 7 2 := fun d ⟨hr, g⟩ cs => caught_ex k3f hr (fun cs => call7 g cs) (right_of (by decide) (by decide) fun cs => call7 g cs) cs
theorem door8 {d : D} (hr : rOk d = true) (g : wholeB d = false ∨ d = .int 0) (cs : Cs) : m__law_caught [.dat (.int 8), .dat d] cs = some (.dat (.list [.list [.bool true, .bool false, .bool false], .str d.shown]), cs) :=
  caught_ex k3n hr (fun cs => call8 g cs) (right_of (by decide) (by decide) fun cs => call8 g cs) cs
theorem door9 {d : D} {n door : Int} (hd : door = 9 ∨ door = 10) (hr : rOk d = true) (g : fracB d = false) (h0 : 0 ≤ n) (h1 : n ≤ 12) (cs : Cs) : m__law_caught [.dat (.int door), .dat (.tuple [d, .int n])] cs = some (.dat (.list [.list [.bool false, .bool false, .bool true], .str d.shown]), cs) :=
  caught_ex k3f hr (fun cs => call9 hd g h0 h1 cs) (right_of (by omega) (by omega) fun cs => call9 hd g h0 h1 cs) cs
theorem plainT {a b c : Bool} {s : Str} : dNe (.list [.list [.bool a, .bool b, .bool c], .str s]) (.list [.list [.bool a, .bool b, .bool c], .str s]) = some (db false) := dNe_refl rfl (by show 2 ≤ 100; decide)
noncomputable abbrev inner : MS := (sIf (mTOr (mTB (mB dNe (xVar 8) (xC (.int 1)))) (mTNot (mTru (mU (dIsi "list") (xVar 5))))) (sIf (mTB (mB dNe (mCallF 2 m__law_caught (aCons (xVar 7) (aCons (xVar 5) aNil))) (xLst (aCons (xComp (iRg1 (aCons (xC (.int 3)) aNil)) (gNm 10) mYes (mB dEq (xVar 10) (xVar 8)) [10]) (aCons (mCall dRepr (aCons (xVar 5) aNil)) aNil))))) (sRet (xC (.bool false))) sNil) sNil)
theorem inner_em {door kind : Int} (hD : Door door kind) (hk : kind = 0 ∨ kind = 1 ∨ kind = 2) {n0 : Nat} {v0 v1 v2 v3 v4 v6 v9 : Option Rv} {cs : Cs} {Q : Out → Prop} (h : ∀ v5 v10, Q (.nx [v0, v1, v2, v3, v4, v5, v6, some (.dat (.int door)), some (.dat (.int kind)), v9, v10] cs)) :
    ∀ {L : List D} {v5 v10 : Option Rv}, (∀ d ∈ L, rOk d = true ∧ (kind = 1 ∧ isL d = true ∨ Good door kind d)) → El (gNm 5) inner n0 L [v0, v1, v2, v3, v4, v5, v6, some (.dat (.int door)), some (.dat (.int kind)), v9, v10] cs Q := by
  intro L v5 v10 hL
  refine el_inv (k := 0) (fun i ρ cs' => cs' = cs ∧ ∃ v5 v10, ρ = [v0, v1, v2, v3, v4, v5, v6, some (.dat (.int door)), some (.dat (.int kind)), v9, v10]) ⟨rfl, v5, v10, rfl⟩ ?_ ?_
  · rintro i d ρ cs' hd ⟨rfl, v5, v10, rfl⟩
    obtain ⟨hr, hg⟩ := hL d (List.mem_of_getElem? hd)
    clear hd hL
    rcases hg with ⟨rfl, hl⟩ | g
    · simp [fdNe_int, isi_L, hl]
    · by_cases h1 : kind = 1
      · subst h1
        have hl : isL d = false := g.2
        simp [fdNe_int, isi_L, hl]
        refine em_of (hD d g _) ?_
        simp
        refine ⟨by constructor <;> decide, ?_⟩
        refine ec_pure (fun _ => true) (fun x => match x with | .int a => .bool (a == 1) | _ => .none) (fun x hx cs'' => ?_) (le_size (by rw [rng_len]; decide)) ?_
        · obtain ⟨a, ha, rfl⟩ := rng_mem hx
          simp [wipeR, fdEq_int]
        · simp [rngD, List.range, List.range.loop, repr_ok hr, le_size, told]
          try simp [plainT]
      · simp [fdNe_int, h1]
        refine em_of (hD d g _) ?_
        simp
        refine ⟨by constructor <;> decide, ?_⟩
        refine ec_pure (fun _ => true) (fun x => match x with | .int a => .bool (a == kind) | _ => .none) (fun x hx cs'' => ?_) (le_size (by rw [rng_len]; decide)) ?_
        · obtain ⟨a, ha, rfl⟩ := rng_mem hx
          simp [wipeR, fdEq_int]
        · simp [rngD, List.range, List.range.loop, repr_ok hr, le_size, told]
          try simp [plainT]
  · rintro ρ cs' ⟨rfl, v5, v10, rfl⟩
    exact h v5 v10
end My
namespace My
open PySem PySem.Spec PyProof.Rows L2 DL
theorem dPow_9 : dPow (.int 10) (.int 9) = some (.dat (.int 1000000000)) := by
  show (if CPw 10 9 then some (di (10 ^ (9 : Int).toNat)) else none) = _
  rw [if_pos (by decide)]
  rfl
theorem dMul_b3 : dMul (.list [.bool false]) (.int 3) = some (.fr [.bool false, .bool false, .bool false]) := by
  rw [dMul_list ⟨by decide, by decide, by rw [sizeLine_eq]; decide⟩]
  rfl
theorem doors_enum {d : D} (h : d ∈ enumD 0 [.int 0, .int 0, .int 1, .int 2, .int 1, .int 2, .int 2, .int 2]) : ∃ door kind : Int, d = .tuple [.int door, .int kind] ∧ Door door kind ∧ (kind = 0 ∧ (door = 0 ∨ door = 1) ∨ kind = 1 ∧ door ≠ 1 ∨ kind = 2 ∧ door ≠ 1) := by
  simp [enumD] at h
  rcases h with rfl | rfl | rfl | rfl | rfl | rfl | rfl | rfl
  · exact ⟨_, _, rfl, door0, .inl ⟨rfl, .inl rfl⟩⟩
  · exact ⟨_, _, rfl, door1, .inl ⟨rfl, .inr rfl⟩⟩
  · exact ⟨_, _, rfl, door2, .inr (.inl ⟨rfl, by decide⟩)⟩
  · exact ⟨_, _, rfl, door3, .inr (.inr ⟨rfl, by decide⟩)⟩
  · exact ⟨_, _, rfl, door4, .inr (.inl ⟨rfl, by decide⟩)⟩
  · exact ⟨_, _, rfl, door5, .inr (.inr ⟨rfl, by decide⟩)⟩
  · exact ⟨_, _, rfl, door6, .inr (.inr ⟨rfl, by decide⟩)⟩
  · exact ⟨_, _, rfl, door7, .inr (.inr ⟨rfl, by decide⟩)⟩
theorem isL_or (d : D) : isL d = true ∨ isL d = false := by cases isL d <;> simp
theorem odd_good {d : D} (h : Odd d) {door kind : Int} (hk : kind = 0 ∨ kind = 1 ∨ kind = 2) : rOk d = true ∧ (kind = 1 ∧ isL d = true ∨ Good door kind d) := by
  refine ⟨h.r, ?_⟩
  rcases hk with rfl | rfl | rfl
  · exact .inr ⟨h.r, .inl h.w⟩
  · rcases isL_or d with z | z
    · exact .inl ⟨rfl, z⟩
    · exact .inr ⟨h.r, z⟩
  · exact .inr ⟨h.r, h.f⟩
theorem int_good {a : Int} (ha : a.natAbs < 10 ^ 40) {door kind : Int} (hk : kind = 1 ∨ kind = 2) : rOk (.int a) = true ∧ (kind = 1 ∧ isL (.int a) = true ∨ Good door kind (.int a)) := by
  refine ⟨int_ok ha, ?_⟩
  rcases hk with rfl | rfl
  · exact .inr ⟨int_ok ha, rfl⟩
  · exact .inr ⟨int_ok ha, rfl⟩
def five : List D := [.int 0, .none, .bool true, .str "0", .list [.int 0]]
theorem five_ok : five.all (fun d => rOk d && (!wholeB d || match d with | .int 0 => true | _ => false)) = true := by decide +kernel
theorem five_good {d : D} (h : d ∈ five) : rOk d = true ∧ (wholeB d = false ∨ d = .int 0) := by
  have z := List.all_eq_true.mp five_ok d h
  simp at z
  refine ⟨z.1, ?_⟩
  rcases z.2 with q | q
  · exact .inl q
  · right
    split at q
    · rfl
    · cases q
theorem rok_none : rOk .none = true := by decide +kernel
theorem fr_n1 {n : Int} : fracB (.tuple [.int n, .int 1]) = true := by
  unfold fracB
  simp
theorem law_eq {ns : List Int} (hl : ns.length ≤ 63) (hb : ∀ z ∈ ns, Builtin.Int.intBits z ≤ 1048576) : m_law [.dat (.list (ns.map .int))] [] = some (.dat (.bool true), []) := by
  refine em_eq ?_
  unfold m_law
  rw [em_fnM]
  unfold b_law
  simp
  refine ⟨by constructor <;> decide, ?_⟩
  refine el_inv (k := 0) (fun i ρ cs => ∃ v1 v2 v3 v4 v5 v6 v7 v8 v9 v10, ρ = [some (.dat (.list (ns.map .int))), v1, v2, v3, v4, v5, v6, v7, v8, v9, v10]) ⟨none, none, none, none, none, none, none, none, none, none, rfl⟩ ?_ ?_
  · rintro i d ρ cs hd ⟨v1, v2, v3, v4, v5, v6, v7, v8, v9, v10, rfl⟩
    obtain ⟨j, hj, rfl⟩ := rng_mem (List.mem_of_getElem? hd)
    have hj' : j < 3 := hj
    clear hd
    simp
    refine generator_em (by omega) (by omega) hb (by omega) fun g gs => ?_
    simp [dPow_9]
    refine random_em (k := cs.length) (c := g) (by simp) gs (by omega) (by decide) (by decide) fun r g1 r0 r1 gs1 => ?_
    have hn : Nb (1 + r) := ⟨by omega, by omega⟩
    have c1 : CMl (1 + r) 2 := cml 40 2 (by omega) (by decide)
    simp [dAdd_int, le_size, dSub_int, dMul_int c1]
    refine ec_pure one1 id (fun d hd cs' => ?_) (le_size (by show 0 + 18 ≤ _; decide)) ?_
    · have ro := s0_ok hn d hd
      simp [wipeR, repr_ok ro, dNe_str, one1]
    · rw [List.nil_append, List.map_id]
      have hS := strange_ok hn
      generalize hSt : List.filter one1 _ = St
      have hS' : ∀ d ∈ St, Odd d := by
        rw [← hSt]
        exact hS
      have hSl : St.length ≤ 18 := by
        rw [← hSt]
        exact List.length_filter_le _ _
      clear hS hSt
      generalize 1 + r = n at hn c1 ⊢
      have n1 := hn.lo
      have n2 := hn.hi
      refine el_inv (k := 0) (fun i ρ cs' => cs' = cs ++ [some g1] ∧ ∃ v5 v6 v7 v8 v9 v10, ρ = [some (.dat (.list (ns.map .int))), some (.dat (.int (j : Int))), some (.own cs.length), some (.dat (.int n)), some (.dat (.list St)), v5, v6, v7, v8, v9, v10]) ⟨rfl, _, _, _, _, _, _, rfl⟩ ?_ ?_
      · rintro i d ρ cs' hd ⟨rfl, v5, v6, v7, v8, v9, v10, rfl⟩
        obtain ⟨door, kind, rfl, hD, hk⟩ := doors_enum (List.mem_of_getElem? hd)
        clear hd
        have z1 : St.length + 1 ≤ sizeLine := le_size (by omega)
        have z0 : St.length ≤ sizeLine := le_size (by omega)
        have z3 : St.length + 3 ≤ sizeLine := le_size (by omega)
        have s3 : 3 ≤ sizeLine := le_size (by decide)
        have s1 : 1 ≤ sizeLine := le_size (by decide)
        have fin : ∀ (L : List D), (∀ d ∈ L, rOk d = true ∧ (kind = 1 ∧ isL d = true ∨ Good door kind d)) → kind = 0 ∨ kind = 1 ∨ kind = 2 → ∀ (v5 : Option Rv) (Q : Out → Prop), (∀ v5 v10, Q (.nx [some (.dat (.list (ns.map .int))), some (.dat (.int (j : Int))), some (.own cs.length), some (.dat (.int n)), some (.dat (.list St)), v5, v6, some (.dat (.int door)), some (.dat (.int kind)), v9, v10] (cs ++ [some g1]))) →
            El (gNm 5) inner (0 : Nat) L [some (.dat (.list (ns.map .int))), some (.dat (.int (j : Int))), some (.own cs.length), some (.dat (.int n)), some (.dat (.list St)), v5, v6, some (.dat (.int door)), some (.dat (.int kind)), v9, v10] (cs ++ [some g1]) Q := fun L hL hk v5 Q h => inner_em hD hk h hL
        rcases hk with ⟨rfl, rfl | rfl⟩ | ⟨rfl, hd1⟩ | ⟨rfl, hd1⟩
        · simp [fdEq_int, dGt_int, dAdd_list, le_size, z0, z1]
          refine fin _ (fun d hd => ?_) (.inl rfl) _ _ fun w5 w10 => ?_
          · exact odd_good (hS' d hd) (.inl rfl)
          · simp
        · simp [fdEq_int, dGt_int, dAdd_list, le_size, z0, z1]
          refine fin _ (fun d hd => ?_) (.inl rfl) _ _ fun w5 w10 => ?_
          · rcases List.mem_append.mp hd with z | z
            · exact odd_good (hS' d z) (.inl rfl)
            · simp at z
              subst z
              exact ⟨int_ok (by decide), .inr ⟨int_ok (by decide), .inr ⟨rfl, rfl⟩⟩⟩
          · simp
        · simp [fdEq_int, dGt_int, dAdd_list, le_size, z0, z3, hd1, dSub_int, s3]
          refine fin _ (fun d hd => ?_) (.inr (.inl rfl)) _ _ fun w5 w10 => ?_
          · rcases List.mem_append.mp hd with z | z
            · exact odd_good (hS' d z) (.inr (.inl rfl))
            · simp at z
              rcases z with rfl | rfl | rfl <;> exact int_good (by omega) (.inl rfl)
          · simp
        · simp [fdEq_int, dGt_int, dAdd_list, le_size, z0, z3, hd1, dSub_int, s3]
          refine fin _ (fun d hd => ?_) (.inr (.inr rfl)) _ _ fun w5 w10 => ?_
          · rcases List.mem_append.mp hd with z | z
            · exact odd_good (hS' d z) (.inr (.inr rfl))
            · simp at z
              rcases z with rfl | rfl | rfl <;> exact int_good (by omega) (.inr rfl)
          · simp
      · rintro ρ cs' ⟨rfl, v5, v6, v7, v8, v9, v10, rfl⟩
        simp [le_size]
        refine el_inv (k := 0) (fun i ρ cs' => cs' = cs ++ [some g1] ∧ ∃ v5 v6 v7 v8 v9 v10, ρ = [some (.dat (.list (ns.map .int))), some (.dat (.int (j : Int))), some (.own cs.length), some (.dat (.int n)), some (.dat (.list St)), v5, v6, v7, v8, v9, v10]) ⟨rfl, _, _, _, _, _, _, rfl⟩ ?_ ?_
        · rintro i d ρ cs' hd ⟨rfl, v5, v6, v7, v8, v9, v10, rfl⟩
          obtain ⟨q1, q2⟩ := five_good (List.mem_of_getElem? hd)
          clear hd
          simp
          refine em_of (door8 q1 q2 _) ?_
          simp [le_size, repr_ok q1, plainT]
        · rintro ρ cs' ⟨rfl, v5, v6, v7, v8, v9, v10, rfl⟩
          have z1 : St.length + 1 ≤ sizeLine := le_size (by omega)
          simp [le_size, dAdd_list, z1]
          refine el_inv (k := 0) (fun i ρ cs' => ∃ c', cs' = cs ++ [some c'] ∧ Gs (1000 * (j : Int) + 1000 + 1000 * i) c' ∧ i ≤ 19 ∧ ∃ v5 v6 v7 v8 v9 v10, ρ = [some (.dat (.list (ns.map .int))), some (.dat (.int (j : Int))), some (.own cs.length), some (.dat (.int n)), some (.dat (.list St)), v5, v6, v7, v8, v9, v10]) ⟨g1, rfl, gs1.mono (by omega), by decide, _, _, _, _, _, _, rfl⟩ ?_ ?_
          · rintro i d ρ cs' hd ⟨c', rfl, gc, hi, v5, v6, v7, v8, v9, v10, rfl⟩
            have hi2 : i < 19 := by
              have := (List.getElem?_eq_some_iff.mp hd).1
              simp at this
              omega
            have od : rOk d = true ∧ fracB d = false := by
              rcases List.mem_append.mp (List.mem_of_getElem? hd) with z | z
              · exact ⟨(hS' d z).r, (hS' d z).f⟩
              · simp at z
                subst z
                exact ⟨int_ok (by omega), rfl⟩
            clear hd
            rw [Nat.zero_add] at *
            simp [le_size]
            refine el_inv (k := 0) (fun i' ρ cs' => ∃ c', cs' = cs ++ [some c'] ∧ Gs (1000 * (j : Int) + 1000 + 1000 * i + 300 * i') c' ∧ i' ≤ 2 ∧ ∃ v6 v7 v8 v9 v10, ρ = [some (.dat (.list (ns.map .int))), some (.dat (.int (j : Int))), some (.own cs.length), some (.dat (.int n)), some (.dat (.list St)), some (.dat d), v6, v7, v8, v9, v10]) ⟨c', rfl, gc.mono (by omega), by decide, _, _, _, _, _, rfl⟩ ?_ ?_
            · rintro i' e ρ cs' hd ⟨c2, rfl, gc2, hi', v6, v7, v8, v9, v10, rfl⟩
              have hi3 : i' < 2 := (List.getElem?_eq_some_iff.mp hd).1
              have he : ∃ door : Int, e = .int door ∧ (door = 9 ∨ door = 10) := by
                have z := List.mem_of_getElem? hd
                simp at z
                rcases z with rfl | rfl
                · exact ⟨_, rfl, .inl rfl⟩
                · exact ⟨_, rfl, .inr rfl⟩
              obtain ⟨door, rfl, hdoor⟩ := he
              clear hd
              rw [Nat.zero_add] at *
              simp
              refine random_em (k := cs.length) (c := c2) (by simp) gc2 (by omega) (by decide) (by decide) fun t c3 t0 t1 gc3 => ?_
              simp [le_size]
              refine pick_em (k := cs.length) (c := c3) (by simp) gc3 (by omega) (by simp) (by simp) fun x c4 hx gc4 => ?_
              have hx' : ∃ m : Int, x = .int m ∧ 0 ≤ m ∧ m ≤ 12 := by
                simp at hx
                rcases hx with rfl | rfl | rfl
                · exact ⟨_, rfl, by decide, by decide⟩
                · exact ⟨_, rfl, by decide, by decide⟩
                · exact ⟨_, rfl, t0, by omega⟩
              obtain ⟨m, rfl, m0, m1⟩ := hx'
              simp [le_size]
              refine em_of (door9 hdoor od.1 od.2 m0 m1 _) ?_
              simp [le_size, repr_ok od.1, plainT]
              exact ⟨gc4.mono (by omega), by omega⟩
            · rintro ρ cs' ⟨c2, rfl, gc2, hi', v6, v7, v8, v9, v10, rfl⟩
              simp
              exact ⟨gc2.mono (by
                simp at gc2 ⊢
                omega), by omega⟩
          · rintro ρ cs' ⟨c', rfl, gc, hi, v5, v6, v7, v8, v9, v10, rfl⟩
            simp [le_size]
            refine el_inv (k := 0) (fun i ρ cs' => cs' = cs ++ [some c'] ∧ ∃ v5 v6 v7 v8 v9 v10, ρ = [some (.dat (.list (ns.map .int))), some (.dat (.int (j : Int))), some (.own cs.length), some (.dat (.int n)), some (.dat (.list St)), v5, v6, v7, v8, v9, v10]) ⟨rfl, _, _, _, _, _, _, rfl⟩ ?_ ?_
            · rintro i d ρ cs' hd ⟨rfl, v5, v6, v7, v8, v9, v10, rfl⟩
              have he : ∃ nm, d = fnD nm ∧ (nm = "sum_of" ∨ nm = "product_of") := by
                have z := List.mem_of_getElem? hd
                simp at z
                rcases z with rfl | rfl
                · exact ⟨_, rfl, .inl rfl⟩
                · exact ⟨_, rfl, .inr rfl⟩
              obtain ⟨nm, rfl, hnm⟩ := he
              clear hd
              simp [le_size]
              refine em_of (alone_eq hnm _) ?_
              simp
            · rintro ρ cs' ⟨rfl, v5, v6, v7, v8, v9, v10, rfl⟩
              have nb : (-n).natAbs < 2 ^ 8000 := Nat.lt_of_lt_of_le (show (-n).natAbs < 2 ^ 40 by omega) (Nat.pow_le_pow_right (by decide) (by decide))
              have ok1 := caught_ok (door := 1) (other := .int (-n)) (fun cs => by obtain ⟨d, e⟩ := call1_ok (j := -n) (by omega) nb cs; exact ⟨_, e⟩) (right_ok (by decide) (by decide) (call1_ok (by omega) nb))
              have ok2 := caught_ok (door := 2) (other := .list [.tuple [.int n, .int 1]]) (fun cs => by obtain ⟨d, e⟩ := call2_ok (n := n) (by omega) cs; exact ⟨_, e⟩) (right_ok (by decide) (by decide) (call2_ok (by omega)))
              have ok3 := caught_ex (door := 3) (other := .tuple [.int n, .int 1]) k3f rok_none (fun cs => call3n fr_n1 cs) (right_of (by decide) (by decide) fun cs => call3n fr_n1 cs)
              have pn : dNe (.list [.list [.bool false, .bool false, .bool false], .none]) (.list [.list [.bool false, .bool false, .bool false], .none]) = some (db false) := dNe_refl rfl (by show 2 ≤ 100; decide)
              simp [le_size, dSub_int]
              rw [el_cons]
              simp
              refine em_of (ok1 _) ?_
              simp [dMul_b3, le_size, pn, Lp]
              rw [el_cons]
              simp
              refine em_of (ok2 _) ?_
              simp [dMul_b3, le_size, pn, Lp]
              refine em_of (ok3 _) ?_
              simp [le_size, repr_ok rok_none, plainT]
  · rintro ρ cs ⟨v1, v2, v3, v4, v5, v6, v7, v8, v9, v10, rfl⟩
    simp
end My
namespace My
open PySem PySem.Spec PyProof.Rows L2 DL
def top (i : Nat) : Stmt := PySem.Challenge.pw_eversame_k04_fractions_refused.main.body.getD i (.Pass ⟨0, 0, 0, 0⟩)
abbrev s_is_whole : Stmt := top 6
abbrev s_check_list : Stmt := top 7
abbrev s_common_of : Stmt := top 9
abbrev s_is_fraction : Stmt := top 10
abbrev s_check_fraction : Stmt := top 11
abbrev s_lowest_of : Stmt := top 12
abbrev s_fraction_of : Stmt := top 13
abbrev s_plus_of : Stmt := top 14
abbrev s_times_of : Stmt := top 15
abbrev s_less_than : Stmt := top 16
abbrev s_check_fractions : Stmt := top 17
abbrev s_sum_of : Stmt := top 18
abbrev s_product_of : Stmt := top 19
abbrev s_is_less : Stmt := top 20
abbrev s__law_hash : Stmt := top 22
abbrev s__law_cell : Stmt := top 23
abbrev s__law_generator : Stmt := top 24
abbrev s__law_random : Stmt := top 25
abbrev s__law_pick : Stmt := top 26
abbrev s__law_call : Stmt := top 27
abbrev s__law_right_call : Stmt := top 28
abbrev s__law_caught : Stmt := top 29
abbrev s__law_alone : Stmt := top 30
abbrev s_law : Stmt := top 31
structure Fre (P : Program) (K : PySem.W.Frag) (mg : Str → Option Value) : Prop where
  f_super : mg "super" = none
  f_abs : mg "abs" = none
  f_bool : mg "bool" = none
  f_enumerate : mg "enumerate" = none
  f_int : mg "int" = none
  f_isinstance : mg "isinstance" = none
  f_len : mg "len" = none
  f_list : mg "list" = none
  f_max : mg "max" = none
  f_range : mg "range" = none
  f_repr : mg "repr" = none
  f_sum : mg "sum" = none
  f_tuple : mg "tuple" = none
  cl_InvalidFraction : ∃ C, ClsOf K mg "InvalidFraction" C
  cl_InvalidList : ∃ C, ClsOf K mg "InvalidList" C
  cl_InvalidNumber : ∃ C, ClsOf K mg "InvalidNumber" C
  be_SameError : ∃ C, ClsOf K mg "SameError" C ∧ PySem.W.subIn K (.ref C) (.type "BaseException") = some true
  fv_product_of : FnV K mg "product_of"
  fv_sum_of : FnV K mg "sum_of"
  ra_InvalidFraction : RaC P K mg "InvalidFraction"
  ra_InvalidList : RaC P K mg "InvalidList"
  ra_InvalidNumber : RaC P K mg "InvalidNumber"

abbrev Fu (K : PySem.W.Frag) (mg : Str → Option Value) (x : Str) (st : Stmt) : Prop := ∃ f fd, FunD K x x (defArgs st) (defBody st) (defScope st) [] [] f fd ∧ mg x = some (.ref f)
section
variable {P : Program} {w : World} {K : PySem.W.Frag} {mg : Str → Option Value} {base : Heap}
theorem sc_is_whole : FnScope ["value"] ["value"] (defScope s_is_whole) := ⟨rfl, rfl, rfl, by decide +kernel, rfl, by decide +kernel, by decide +kernel⟩
theorem ok_is_whole (fr : Fre P K mg) (F : Fu K mg "is_whole" s_is_whole)  : Cal P w K mg base 1 "is_whole" s_is_whole ["value"] m_is_whole :=
  cal_of (k := 0) (N := ["value"]) (b := b_is_whole) F sc_is_whole (fun _ _ _ _ _ _ us hl => match us, hl with | [_], _ => rfl) fun f cdv A outer s H hr rm =>
  (xs_one (xs_ret (xe_and (xe_isi rfl fr.f_isinstance rfl fr.f_int (by decide +kernel) (w_var 0)) (xe_and1 (xe_not (xe_isi rfl fr.f_isinstance rfl fr.f_bool (by decide +kernel) (w_var 0)))))))
theorem sc_check_list : FnScope ["value"] ["value"] (defScope s_check_list) := ⟨rfl, rfl, rfl, by decide +kernel, rfl, by decide +kernel, by decide +kernel⟩
theorem ok_check_list (fr : Fre P K mg) (F : Fu K mg "check_list" s_check_list)  : CalX P w K mg base 1 "check_list" s_check_list ["value"] m_check_list :=
  calX_of (k := 0) (N := ["value"]) (b := b_check_list) F sc_check_list (fun _ _ _ _ _ _ us hl => match us, hl with | [_], _ => rfl) fun f cdv A outer s H E hr rm hc =>
  (xsx_one (x1_if (xt_not (xt_of (xe_isi rfl fr.f_isinstance rfl fr.f_list (by decide +kernel) (w_var 0)))) (xsx_one (w_raise fr.ra_InvalidList hr rm (w_var 0))) xsx_nil))
theorem sc_common_of : FnScope ["one", "other"] ["one", "other"] (defScope s_common_of) := ⟨rfl, rfl, rfl, by decide +kernel, rfl, by decide +kernel, by decide +kernel⟩
theorem ok_common_of (fr : Fre P K mg) (F : Fu K mg "common_of" s_common_of)  : Cal P w K mg base 1 "common_of" s_common_of ["one", "other"] m_common_of :=
  cal_of (k := 0) (N := ["one", "other"]) (b := b_common_of) F sc_common_of (fun _ _ _ _ _ _ us hl => match us, hl with | [_, _], _ => rfl) fun f cdv A outer s H hr rm =>
  (xs_cons (xs_parO (i := 0) (j := 1) rfl sc_common_of.nd (xao_dat (xe_abs rfl fr.f_abs (xa_cons (w_var 0) xa_nil)) (xao_dat (xe_abs rfl fr.f_abs (xa_cons (w_var 1) xa_nil)) xao_nil)))
  (xs_cons (w_while (xt_gt rm (w_var 1) xe_int) (xs_one (xs_parO (i := 0) (j := 1) rfl sc_common_of.nd (xao_dat (w_var 1) (xao_dat (xe_mod (w_var 0) (w_var 1)) xao_nil)))))
  (xs_one (xs_ret (w_var 0)))))
theorem sc_is_fraction : FnScope ["value"] ["value"] (defScope s_is_fraction) := ⟨rfl, rfl, rfl, by decide +kernel, rfl, by decide +kernel, by decide +kernel⟩
theorem ok_is_fraction (fr : Fre P K mg) (F : Fu K mg "is_fraction" s_is_fraction) (C_is_whole : Cal P w K mg base 1 "is_whole" s_is_whole ["value"] m_is_whole) (C_common_of : Cal P w K mg base 1 "common_of" s_common_of ["one", "other"] m_common_of) : Cal P w K mg base 2 "is_fraction" s_is_fraction ["value"] m_is_fraction :=
  cal_of (k := 1) (N := ["value"]) (b := b_is_fraction) F sc_is_fraction (fun _ _ _ _ _ _ us hl => match us, hl with | [_], _ => rfl) fun f cdv A outer s H hr rm =>
  (xs_cons (xs_if (xt_w (xw_or (xt_not (xt_of (xe_isi rfl fr.f_isinstance rfl fr.f_tuple (by decide +kernel) (w_var 0)))) (xw_or (xt_ne rm (xe_len rfl fr.f_len (xa_cons (w_var 0) xa_nil)) xe_int) (xw_or (xt_not (xt_of (w_call C_is_whole hr rm (xa_cons (xe_item (w_var 0) xe_int) xa_nil)))) (xw_or1 (xt_not (xt_of (w_call C_is_whole hr rm (xa_cons (xe_item (w_var 0) xe_int) xa_nil))))))))) (xs_one (xs_ret xe_bl)) xs_nil)
  (xs_one (xs_ret (xe_and (xe_ge rm (xe_item (w_var 0) xe_int) xe_int) (xe_and1 (xe_eq rm (w_call C_common_of hr rm (xa_cons (xe_item (w_var 0) xe_int) (xa_cons (xe_item (w_var 0) xe_int) xa_nil))) xe_int))))))
theorem sc_check_fraction : FnScope ["value"] ["value"] (defScope s_check_fraction) := ⟨rfl, rfl, rfl, by decide +kernel, rfl, by decide +kernel, by decide +kernel⟩
theorem ok_check_fraction (fr : Fre P K mg) (F : Fu K mg "check_fraction" s_check_fraction) (C_is_fraction : Cal P w K mg base 2 "is_fraction" s_is_fraction ["value"] m_is_fraction) : CalX P w K mg base 3 "check_fraction" s_check_fraction ["value"] m_check_fraction :=
  calX_of (k := 2) (N := ["value"]) (b := b_check_fraction) F sc_check_fraction (fun _ _ _ _ _ _ us hl => match us, hl with | [_], _ => rfl) fun f cdv A outer s H E hr rm hc =>
  (xsx_one (x1_if (xt_not (xt_of (w_call C_is_fraction hr rm (xa_cons (w_var 0) xa_nil)))) (xsx_one (w_raise fr.ra_InvalidFraction hr rm (w_var 0))) xsx_nil))
theorem sc_lowest_of : FnScope ["above", "below", "part"] ["above", "below"] (defScope s_lowest_of) := ⟨rfl, rfl, rfl, by decide +kernel, rfl, by decide +kernel, by decide +kernel⟩
theorem ok_lowest_of (fr : Fre P K mg) (F : Fu K mg "lowest_of" s_lowest_of) (C_common_of : Cal P w K mg base 1 "common_of" s_common_of ["one", "other"] m_common_of) : Cal P w K mg base 2 "lowest_of" s_lowest_of ["above", "below"] m_lowest_of :=
  cal_of (k := 1) (N := ["above", "below", "part"]) (b := b_lowest_of) F sc_lowest_of (fun _ _ _ _ _ _ us hl => match us, hl with | [_, _], _ => rfl) fun f cdv A outer s H hr rm =>
  (xs_cons (w_set 2 sc_lowest_of.nd (w_call C_common_of hr rm (xa_cons (w_var 0) (xa_cons (w_var 1) xa_nil))))
  (xs_cons (xs_if (xt_lt rm (w_var 1) xe_int) (xs_one (w_set 2 sc_lowest_of.nd (xe_sub xe_int (w_var 2)))) xs_nil)
  (xs_one (xs_ret (xe_tup (xa_cons (xe_div (w_var 0) (w_var 2)) (xa_cons (xe_div (w_var 1) (w_var 2)) xa_nil)))))))
theorem sc_fraction_of : FnScope ["above", "below"] ["above", "below"] (defScope s_fraction_of) := ⟨rfl, rfl, rfl, by decide +kernel, rfl, by decide +kernel, by decide +kernel⟩
theorem ok_fraction_of (fr : Fre P K mg) (F : Fu K mg "fraction_of" s_fraction_of) (C_is_whole : Cal P w K mg base 1 "is_whole" s_is_whole ["value"] m_is_whole) (C_lowest_of : Cal P w K mg base 2 "lowest_of" s_lowest_of ["above", "below"] m_lowest_of) : CalX P w K mg base 3 "fraction_of" s_fraction_of ["above", "below"] m_fraction_of :=
  calX_of (k := 2) (N := ["above", "below"]) (b := b_fraction_of) F sc_fraction_of (fun _ _ _ _ _ _ us hl => match us, hl with | [_, _], _ => rfl) fun f cdv A outer s H E hr rm hc =>
  (xsx_sq (x1_if (xt_not (xt_of (w_call C_is_whole hr rm (xa_cons (w_var 0) xa_nil)))) (xsx_one (w_raise fr.ra_InvalidNumber hr rm (w_var 0))) xsx_nil)
  (xsx_sq (x1_if (xt_w (xw_or (xt_not (xt_of (w_call C_is_whole hr rm (xa_cons (w_var 1) xa_nil)))) (xw_or1 (xt_eq rm (w_var 1) xe_int)))) (xsx_one (w_raise fr.ra_InvalidNumber hr rm (w_var 1))) xsx_nil)
  (xsx_tail (xs_one (xs_ret (w_call C_lowest_of hr rm (xa_cons (w_var 0) (xa_cons (w_var 1) xa_nil))))))))
theorem sc_plus_of : FnScope ["one", "other"] ["one", "other"] (defScope s_plus_of) := ⟨rfl, rfl, rfl, by decide +kernel, rfl, by decide +kernel, by decide +kernel⟩
theorem ok_plus_of (fr : Fre P K mg) (F : Fu K mg "plus_of" s_plus_of) (C_lowest_of : Cal P w K mg base 2 "lowest_of" s_lowest_of ["above", "below"] m_lowest_of) : Cal P w K mg base 3 "plus_of" s_plus_of ["one", "other"] m_plus_of :=
  cal_of (k := 2) (N := ["one", "other"]) (b := b_plus_of) F sc_plus_of (fun _ _ _ _ _ _ us hl => match us, hl with | [_, _], _ => rfl) fun f cdv A outer s H hr rm =>
  (xs_one (xs_ret (w_call C_lowest_of hr rm (xa_cons (xe_add (xe_mul (xe_item (w_var 0) xe_int) (xe_item (w_var 1) xe_int)) (xe_mul (xe_item (w_var 1) xe_int) (xe_item (w_var 0) xe_int))) (xa_cons (xe_mul (xe_item (w_var 0) xe_int) (xe_item (w_var 1) xe_int)) xa_nil)))))
theorem sc_times_of : FnScope ["one", "other"] ["one", "other"] (defScope s_times_of) := ⟨rfl, rfl, rfl, by decide +kernel, rfl, by decide +kernel, by decide +kernel⟩
theorem ok_times_of (fr : Fre P K mg) (F : Fu K mg "times_of" s_times_of) (C_lowest_of : Cal P w K mg base 2 "lowest_of" s_lowest_of ["above", "below"] m_lowest_of) : Cal P w K mg base 3 "times_of" s_times_of ["one", "other"] m_times_of :=
  cal_of (k := 2) (N := ["one", "other"]) (b := b_times_of) F sc_times_of (fun _ _ _ _ _ _ us hl => match us, hl with | [_, _], _ => rfl) fun f cdv A outer s H hr rm =>
  (xs_one (xs_ret (w_call C_lowest_of hr rm (xa_cons (xe_mul (xe_item (w_var 0) xe_int) (xe_item (w_var 1) xe_int)) (xa_cons (xe_mul (xe_item (w_var 0) xe_int) (xe_item (w_var 1) xe_int)) xa_nil)))))
theorem sc_less_than : FnScope ["one", "other"] ["one", "other"] (defScope s_less_than) := ⟨rfl, rfl, rfl, by decide +kernel, rfl, by decide +kernel, by decide +kernel⟩
theorem ok_less_than (fr : Fre P K mg) (F : Fu K mg "less_than" s_less_than)  : Cal P w K mg base 1 "less_than" s_less_than ["one", "other"] m_less_than :=
  cal_of (k := 0) (N := ["one", "other"]) (b := b_less_than) F sc_less_than (fun _ _ _ _ _ _ us hl => match us, hl with | [_, _], _ => rfl) fun f cdv A outer s H hr rm =>
  (xs_one (xs_ret (xe_lt rm (xe_mul (xe_item (w_var 0) xe_int) (xe_item (w_var 1) xe_int)) (xe_mul (xe_item (w_var 1) xe_int) (xe_item (w_var 0) xe_int)))))
theorem sc_check_fractions : FnScope ["fractions", "item"] ["fractions"] (defScope s_check_fractions) := ⟨rfl, rfl, rfl, by decide +kernel, rfl, by decide +kernel, by decide +kernel⟩
theorem ok_check_fractions (fr : Fre P K mg) (F : Fu K mg "check_fractions" s_check_fractions) (C_check_list : CalX P w K mg base 1 "check_list" s_check_list ["value"] m_check_list) (C_check_fraction : CalX P w K mg base 3 "check_fraction" s_check_fraction ["value"] m_check_fraction) : CalX P w K mg base 4 "check_fractions" s_check_fractions ["fractions"] m_check_fractions :=
  calX_of (k := 3) (N := ["fractions", "item"]) (b := b_check_fractions) F sc_check_fractions (fun _ _ _ _ _ _ us hl => match us, hl with | [_], _ => rfl) fun f cdv A outer s H E hr rm hc =>
  (xsx_sq (x1_expr (wr_call C_check_list hr rm (xa_cons (w_var 0) xa_nil)))
  (xsx_one (w_forX [1] (passes_of rfl) rm (xi_seq (w_var 0)) (w_gn 1 sc_check_fractions.nd) (xsx_one (x1_expr (wr_call C_check_fraction hr rm (xa_cons (w_var 1) xa_nil)))))))
theorem sc_sum_of : FnScope ["fractions", "total", "item"] ["fractions"] (defScope s_sum_of) := ⟨rfl, rfl, rfl, by decide +kernel, rfl, by decide +kernel, by decide +kernel⟩
theorem ok_sum_of (fr : Fre P K mg) (F : Fu K mg "sum_of" s_sum_of) (C_check_fractions : CalX P w K mg base 4 "check_fractions" s_check_fractions ["fractions"] m_check_fractions) (C_plus_of : Cal P w K mg base 3 "plus_of" s_plus_of ["one", "other"] m_plus_of) : CalX P w K mg base 5 "sum_of" s_sum_of ["fractions"] m_sum_of :=
  calX_of (k := 4) (N := ["fractions", "total", "item"]) (b := b_sum_of) F sc_sum_of (fun _ _ _ _ _ _ us hl => match us, hl with | [_], _ => rfl) fun f cdv A outer s H E hr rm hc =>
  (xsx_sq (x1_expr (wr_call C_check_fractions hr rm (xa_cons (w_var 0) xa_nil)))
  (xsx_tail (xs_cons (w_set 1 sc_sum_of.nd (xe_tup (xa_cons xe_int (xa_cons xe_int xa_nil))))
  (xs_cons (w_for [2] (xi_seq (w_var 0)) (w_gn 2 sc_sum_of.nd) (xs_one (w_set 1 sc_sum_of.nd (w_call C_plus_of hr rm (xa_cons (w_var 1) (xa_cons (w_var 2) xa_nil))))))
  (xs_one (xs_ret (w_var 1)))))))
theorem sc_product_of : FnScope ["fractions", "total", "item"] ["fractions"] (defScope s_product_of) := ⟨rfl, rfl, rfl, by decide +kernel, rfl, by decide +kernel, by decide +kernel⟩
theorem ok_product_of (fr : Fre P K mg) (F : Fu K mg "product_of" s_product_of) (C_check_fractions : CalX P w K mg base 4 "check_fractions" s_check_fractions ["fractions"] m_check_fractions) (C_times_of : Cal P w K mg base 3 "times_of" s_times_of ["one", "other"] m_times_of) : CalX P w K mg base 5 "product_of" s_product_of ["fractions"] m_product_of :=
  calX_of (k := 4) (N := ["fractions", "total", "item"]) (b := b_product_of) F sc_product_of (fun _ _ _ _ _ _ us hl => match us, hl with | [_], _ => rfl) fun f cdv A outer s H E hr rm hc =>
  (xsx_sq (x1_expr (wr_call C_check_fractions hr rm (xa_cons (w_var 0) xa_nil)))
  (xsx_tail (xs_cons (w_set 1 sc_product_of.nd (xe_tup (xa_cons xe_int (xa_cons xe_int xa_nil))))
  (xs_cons (w_for [2] (xi_seq (w_var 0)) (w_gn 2 sc_product_of.nd) (xs_one (w_set 1 sc_product_of.nd (w_call C_times_of hr rm (xa_cons (w_var 1) (xa_cons (w_var 2) xa_nil))))))
  (xs_one (xs_ret (w_var 1)))))))
theorem sc_is_less : FnScope ["one", "other"] ["one", "other"] (defScope s_is_less) := ⟨rfl, rfl, rfl, by decide +kernel, rfl, by decide +kernel, by decide +kernel⟩
theorem ok_is_less (fr : Fre P K mg) (F : Fu K mg "is_less" s_is_less) (C_check_fraction : CalX P w K mg base 3 "check_fraction" s_check_fraction ["value"] m_check_fraction) (C_less_than : Cal P w K mg base 1 "less_than" s_less_than ["one", "other"] m_less_than) : CalX P w K mg base 4 "is_less" s_is_less ["one", "other"] m_is_less :=
  calX_of (k := 3) (N := ["one", "other"]) (b := b_is_less) F sc_is_less (fun _ _ _ _ _ _ us hl => match us, hl with | [_, _], _ => rfl) fun f cdv A outer s H E hr rm hc =>
  (xsx_sq (x1_expr (wr_call C_check_fraction hr rm (xa_cons (w_var 0) xa_nil)))
  (xsx_sq (x1_expr (wr_call C_check_fraction hr rm (xa_cons (w_var 1) xa_nil)))
  (xsx_tail (xs_one (xs_ret (w_call C_less_than hr rm (xa_cons (w_var 0) (xa_cons (w_var 1) xa_nil))))))))
theorem sc__law_hash : FnScope ["seed", "index", "mixed"] ["seed", "index"] (defScope s__law_hash) := ⟨rfl, rfl, rfl, by decide +kernel, rfl, by decide +kernel, by decide +kernel⟩
theorem ok__law_hash (fr : Fre P K mg) (F : Fu K mg "_law_hash" s__law_hash)  : Cal P w K mg base 1 "_law_hash" s__law_hash ["seed", "index"] m__law_hash :=
  cal_of (k := 0) (N := ["seed", "index", "mixed"]) (b := b__law_hash) F sc__law_hash (fun _ _ _ _ _ _ us hl => match us, hl with | [_, _], _ => rfl) fun f cdv A outer s H hr rm =>
  (xs_cons (w_set 2 sc__law_hash.nd (xe_mod (xe_int1 rfl fr.f_int (xa_cons (xe_add (xe_add (xe_add (xe_mul (w_var 0) xe_int) (xe_mul (xe_mul xe_int (w_var 1)) (w_var 1))) (xe_mul xe_int (w_var 1))) xe_int) xa_nil)) xe_int))
  (xs_cons (w_set 2 sc__law_hash.nd (xe_mod (xe_int1 rfl fr.f_int (xa_cons (xe_add (xe_add (xe_mul (w_var 2) (w_var 2)) (xe_mul xe_int (w_var 1))) xe_int) xa_nil)) xe_int))
  (xs_one (xs_ret (xe_mod (xe_int1 rfl fr.f_int (xa_cons (xe_mul (w_var 2) xe_int) xa_nil)) xe_int)))))
theorem sc__law_cell : FnScope ["script", "index"] ["script", "index"] (defScope s__law_cell) := ⟨rfl, rfl, rfl, by decide +kernel, rfl, by decide +kernel, by decide +kernel⟩
theorem ok__law_cell (fr : Fre P K mg) (F : Fu K mg "_law_cell" s__law_cell)  : Cal P w K mg base 1 "_law_cell" s__law_cell ["script", "index"] m__law_cell :=
  cal_of (k := 0) (N := ["script", "index"]) (b := b__law_cell) F sc__law_cell (fun _ _ _ _ _ _ us hl => match us, hl with | [_, _], _ => rfl) fun f cdv A outer s H hr rm =>
  (xs_cons (xs_if (xt_lt rm (w_var 1) (xe_len rfl fr.f_len (xa_cons (w_var 0) xa_nil))) (xs_one (xs_ret (xe_item (w_var 0) (w_var 1)))) xs_nil)
  (xs_one (xs_ret (xe_mod (xe_sum rm rfl fr.f_sum (xa_cons (xe_slice (w_var 0) xo_none (xo_some xe_int)) xa_nil)) xe_int))))
theorem sc__law_generator : FnScope ["script", "index", "seed"] ["script", "index"] (defScope s__law_generator) := ⟨rfl, rfl, rfl, by decide +kernel, rfl, by decide +kernel, by decide +kernel⟩
theorem ok__law_generator (fr : Fre P K mg) (F : Fu K mg "_law_generator" s__law_generator) (C__law_cell : Cal P w K mg base 1 "_law_cell" s__law_cell ["script", "index"] m__law_cell) : Cal P w K mg base 2 "_law_generator" s__law_generator ["script", "index"] m__law_generator :=
  cal_of (k := 1) (N := ["script", "index", "seed"]) (b := b__law_generator) F sc__law_generator (fun _ _ _ _ _ _ us hl => match us, hl with | [_, _], _ => rfl) fun f cdv A outer s H hr rm =>
  (xs_cons (w_set 2 sc__law_generator.nd (w_call C__law_cell hr rm (xa_cons (w_var 0) (xa_cons (w_var 1) xa_nil))))
  (xs_one (xs_ret (xe_lst (xa_cons (xe_mod (xe_int1 rfl fr.f_int (xa_cons (xe_max2 rm rfl fr.f_max (xa_cons (xe_sub (w_var 2) (xe_pow xe_int xe_int)) (xa_cons xe_int xa_nil))) xa_nil)) (xe_pow (xe_pow xe_int xe_int) xe_int)) (xa_cons (xe_mod (xe_int1 rfl fr.f_int (xa_cons (w_var 2) xa_nil)) xe_int) (xa_cons (xe_mul xe_int (w_var 1)) xa_nil)))))))
theorem sc__law_random : FnScope ["generator", "bound", "drawn", "turn"] ["generator", "bound"] (defScope s__law_random) := ⟨rfl, rfl, rfl, by decide +kernel, rfl, by decide +kernel, by decide +kernel⟩
theorem ok__law_random (fr : Fre P K mg) (F : Fu K mg "_law_random" s__law_random) (C__law_hash : Cal P w K mg base 1 "_law_hash" s__law_hash ["seed", "index"] m__law_hash) : Cal P w K mg base 2 "_law_random" s__law_random ["generator", "bound"] m__law_random :=
  cal_of (k := 1) (N := ["generator", "bound", "drawn", "turn"]) (b := b__law_random) F sc__law_random (fun _ _ _ _ _ _ us hl => match us, hl with | [_, _], _ => rfl) fun f cdv A outer s H hr rm =>
  (xs_cons (xs_if (xt_gt rm (xe_item (w_var 0) xe_int) xe_int) (xs_cons (w_set 2 sc__law_random.nd (xe_mod (xe_int1 rfl fr.f_int (xa_cons (xe_item (w_var 0) xe_int) xa_nil)) (w_var 1)))
  (xs_cons (w_put 0 xe_int (xe_div (xe_item (w_var 0) xe_int) (w_var 1)))
  (xs_one (xs_ret (w_var 2))))) xs_nil)
  (xs_cons (w_set 2 sc__law_random.nd xe_int)
  (xs_cons (w_for [3] (xi_range1 rfl fr.f_range (xa_cons (xe_add xe_int (xe_div (xe_bits (w_var 1)) xe_int)) xa_nil)) (w_gn 3 sc__law_random.nd) (xs_cons (w_put 0 xe_int (xe_add (xe_item (w_var 0) xe_int) xe_int))
  (xs_one (w_set 2 sc__law_random.nd (xe_add (xe_mul (w_var 2) xe_int) (w_call C__law_hash hr rm (xa_cons (xe_item (w_var 0) xe_int) (xa_cons (xe_item (w_var 0) xe_int) xa_nil))))))))
  (xs_one (xs_ret (xe_mod (xe_int1 rfl fr.f_int (xa_cons (w_var 2) xa_nil)) (w_var 1)))))))
theorem sc__law_pick : FnScope ["generator", "things"] ["generator", "things"] (defScope s__law_pick) := ⟨rfl, rfl, rfl, by decide +kernel, rfl, by decide +kernel, by decide +kernel⟩
theorem ok__law_pick (fr : Fre P K mg) (F : Fu K mg "_law_pick" s__law_pick) (C__law_random : Cal P w K mg base 2 "_law_random" s__law_random ["generator", "bound"] m__law_random) : Cal P w K mg base 3 "_law_pick" s__law_pick ["generator", "things"] m__law_pick :=
  cal_of (k := 2) (N := ["generator", "things"]) (b := b__law_pick) F sc__law_pick (fun _ _ _ _ _ _ us hl => match us, hl with | [_, _], _ => rfl) fun f cdv A outer s H hr rm =>
  (xs_one (xs_ret (xe_item (w_var 1) (w_call C__law_random hr rm (xa_cons (w_var 0) (xa_cons (xe_len rfl fr.f_len (xa_cons (w_var 1) xa_nil)) xa_nil))))))
theorem sc__law_call : FnScope ["door", "other", "goods"] ["door", "other"] (defScope s__law_call) := ⟨rfl, rfl, rfl, by decide +kernel, rfl, by decide +kernel, by decide +kernel⟩
theorem ok__law_call (fr : Fre P K mg) (F : Fu K mg "_law_call" s__law_call) (C_fraction_of : CalX P w K mg base 3 "fraction_of" s_fraction_of ["above", "below"] m_fraction_of) (C_sum_of : CalX P w K mg base 5 "sum_of" s_sum_of ["fractions"] m_sum_of) (C_product_of : CalX P w K mg base 5 "product_of" s_product_of ["fractions"] m_product_of) (C_is_less : CalX P w K mg base 4 "is_less" s_is_less ["one", "other"] m_is_less) : CalX P w K mg base 6 "_law_call" s__law_call ["door", "other"] m__law_call :=
  calX_of (k := 5) (N := ["door", "other", "goods"]) (b := b__law_call) F sc__law_call (fun _ _ _ _ _ _ us hl => match us, hl with | [_, _], _ => rfl) fun f cdv A outer s H E hr rm hc =>
  (xsx_sq (x1_if (xt_eq rm (w_var 0) xe_int) (xsx_one (x1_ret (wr_call C_fraction_of hr rm (xa_cons (w_var 1) (xa_cons xe_int xa_nil))))) xsx_nil)
  (xsx_sq (x1_if (xt_eq rm (w_var 0) xe_int) (xsx_one (x1_ret (wr_call C_fraction_of hr rm (xa_cons xe_int (xa_cons (w_var 1) xa_nil))))) xsx_nil)
  (xsx_sq (x1_if (xt_eq rm (w_var 0) xe_int) (xsx_one (x1_ret (wr_call C_sum_of hr rm (xa_cons (w_var 1) xa_nil)))) xsx_nil)
  (xsx_sq (x1_if (xt_eq rm (w_var 0) xe_int) (xsx_one (x1_ret (wr_call C_sum_of hr rm (xa_cons (xe_lst (xa_cons (xe_tup (xa_cons xe_int (xa_cons xe_int xa_nil))) (xa_cons (w_var 1) (xa_cons xe_non xa_nil)))) xa_nil)))) xsx_nil)
  (xsx_sq (x1_if (xt_eq rm (w_var 0) xe_int) (xsx_one (x1_ret (wr_call C_product_of hr rm (xa_cons (w_var 1) xa_nil)))) xsx_nil)
  (xsx_sq (x1_if (xt_eq rm (w_var 0) xe_int) (xsx_one (x1_ret (wr_call C_product_of hr rm (xa_cons (xe_lst (xa_cons (xe_tup (xa_cons xe_int (xa_cons xe_int xa_nil))) (xa_cons (xe_tup (xa_cons xe_int (xa_cons xe_int xa_nil))) (xa_cons (w_var 1) (xa_cons (xe_tup (xa_cons xe_int (xa_cons xe_int xa_nil))) xa_nil))))) xa_nil)))) xsx_nil)
  (xsx_sq (x1_if (xt_eq rm (w_var 0) xe_int) (xsx_one (x1_ret (wr_call C_is_less hr rm (xa_cons (w_var 1) (xa_cons xe_non xa_nil))))) xsx_nil)
  (xsx_sq (x1_if (xt_eq rm (w_var 0) xe_int) (xsx_one (x1_ret (wr_call C_is_less hr rm (xa_cons (xe_tup (xa_cons xe_int (xa_cons xe_int xa_nil))) (xa_cons (w_var 1) xa_nil))))) xsx_nil)
  (xsx_sq (x1_if (xt_eq rm (w_var 0) xe_int) (xsx_one (x1_ret (wr_call C_fraction_of hr rm (xa_cons xe_int (xa_cons (w_var 1) xa_nil))))) xsx_nil)
  (xsx_cons (w_set 2 sc__law_call.nd (xe_add (xe_add (xe_mul (xe_lst (xa_cons (xe_tup (xa_cons xe_int (xa_cons xe_int xa_nil))) xa_nil)) (xe_item (w_var 1) xe_int)) (xe_lst (xa_cons (xe_item (w_var 1) xe_int) xa_nil))) (xe_mul (xe_lst (xa_cons (xe_tup (xa_cons xe_int (xa_cons xe_int xa_nil))) xa_nil)) (xe_sub xe_int (xe_item (w_var 1) xe_int)))))
  (xsx_one (x1_ret (xr_if (xt_eq rm (w_var 0) xe_int) (wr_call C_sum_of hr rm (xa_cons (w_var 2) xa_nil)) (wr_call C_product_of hr rm (xa_cons (w_var 2) xa_nil)))))))))))))))
theorem sc__law_right_call : FnScope ["door", "other"] ["door", "other"] (defScope s__law_right_call) := ⟨rfl, rfl, rfl, by decide +kernel, rfl, by decide +kernel, by decide +kernel⟩
theorem ok__law_right_call (fr : Fre P K mg) (F : Fu K mg "_law_right_call" s__law_right_call) (C_fraction_of : CalX P w K mg base 3 "fraction_of" s_fraction_of ["above", "below"] m_fraction_of) (C_is_less : CalX P w K mg base 4 "is_less" s_is_less ["one", "other"] m_is_less) (C__law_call : CalX P w K mg base 6 "_law_call" s__law_call ["door", "other"] m__law_call) : CalX P w K mg base 7 "_law_right_call" s__law_right_call ["door", "other"] m__law_right_call :=
  calX_of (k := 6) (N := ["door", "other"]) (b := b__law_right_call) F sc__law_right_call (fun _ _ _ _ _ _ us hl => match us, hl with | [_, _], _ => rfl) fun f cdv A outer s H E hr rm hc =>
  (xsx_sq (x1_if (xt_eq rm (w_var 0) xe_int) (xsx_one (x1_ret (wr_call C_fraction_of hr rm (xa_cons (w_var 1) (xa_cons xe_int xa_nil))))) xsx_nil)
  (xsx_one (x1_ret (xr_if (xt_eq rm (w_var 0) xe_int) (wr_call C_is_less hr rm (xa_cons (w_var 1) (xa_cons (xe_tup (xa_cons xe_int (xa_cons xe_int xa_nil))) xa_nil))) (wr_call C__law_call hr rm (xa_cons (w_var 0) (xa_cons (w_var 1) xa_nil)))))))
theorem sc__law_caught : FnScope ["door", "other", "found", "way", "caught", "error", "kinds"] ["door", "other"] (defScope s__law_caught) := ⟨rfl, rfl, rfl, by decide +kernel, rfl, by decide +kernel, by decide +kernel⟩
theorem ok__law_caught (fr : Fre P K mg) (F : Fu K mg "_law_caught" s__law_caught) (C__law_call : CalX P w K mg base 6 "_law_call" s__law_call ["door", "other"] m__law_call) (C__law_right_call : CalX P w K mg base 7 "_law_right_call" s__law_right_call ["door", "other"] m__law_right_call) : Cal P w K mg base 8 "_law_caught" s__law_caught ["door", "other"] m__law_caught :=
  cal_of (k := 7) (N := ["door", "other", "found", "way", "caught", "error", "kinds"]) (b := b__law_caught) F sc__law_caught (fun _ _ _ _ _ _ us hl => match us, hl with | [_, _], _ => rfl) fun f cdv A outer s H hr rm =>
  (xs_cons (w_own 2 sc__law_caught.nd (xe_lst xa_nil))
  (xs_cons (w_for [3] (xi_seq (xe_lst (xa_cons xe_int (xa_cons xe_int xa_nil)))) (w_gn 3 sc__law_caught.nd) (xs_cons (w_set 4 sc__law_caught.nd xe_non)
  (xs_cons (w_try 5 4 fr.be_SameError sc__law_caught.nd (fun pn xe po => (xsx_one (x1_if (xt_eq (rm.tr pn xe) (w_var 3) xe_int) (xsx_one (x1_expr (wr_call C__law_call hr (rm.tr pn xe) (xa_cons (w_var 0) (xa_cons (w_var 1) xa_nil))))) (xsx_one (x1_expr (wr_call C__law_right_call hr (rm.tr pn xe) (xa_cons (w_var 0) (xa_cons (w_var 1) xa_nil)))))))))
  (xs_cons (w_set 6 sc__law_caught.nd (xe_lst (xa_cons (w_isX fr.f_isinstance fr.cl_InvalidNumber (w_var 4)) (xa_cons (w_isX fr.f_isinstance fr.cl_InvalidList (w_var 4)) (xa_cons (w_isX fr.f_isinstance fr.cl_InvalidFraction (w_var 4)) xa_nil)))))
  (xs_one (w_app 2 (xe_lst (xa_cons (w_var 6) (xa_cons (xe_if (xt_isN (w_var 4)) xe_non (xe_repr rm rfl fr.f_repr (xa_cons (w_val (w_var 4)) xa_nil))) xa_nil)))))))))
  (xs_one (xs_ret (xe_if (xt_eq rm (xe_item (w_var 2) xe_int) (xe_item (w_var 2) xe_int)) (xe_item (w_var 2) xe_int) (w_var 2))))))
theorem sc__law_alone : FnScope ["call", "odd", "caught", "error"] ["call", "odd"] (defScope s__law_alone) := ⟨rfl, rfl, rfl, by decide +kernel, rfl, by decide +kernel, by decide +kernel⟩
theorem ok__law_alone (fr : Fre P K mg) (F : Fu K mg "_law_alone" s__law_alone) (C_product_of : CalX P w K mg base 5 "product_of" s_product_of ["fractions"] m_product_of) (C_sum_of : CalX P w K mg base 5 "sum_of" s_sum_of ["fractions"] m_sum_of) : Cal P w K mg base 6 "_law_alone" s__law_alone ["call", "odd"] m__law_alone :=
  cal_of (k := 5) (N := ["call", "odd", "caught", "error"]) (b := b__law_alone) F sc__law_alone (fun _ _ _ _ _ _ us hl => match us, hl with | [_, _], _ => rfl) fun f cdv A outer s H hr rm =>
  (xs_cons (w_set 2 sc__law_alone.nd xe_non)
  (xs_cons (w_try 3 2 fr.be_SameError sc__law_alone.nd (fun pn xe po => (xsx_one (x1_expr (wr_callL 0 (tbl_cons (ent_of C_sum_of fr.fv_sum_of (show 5 ≤ 5 by decide) rfl) (tbl_cons (ent_of C_product_of fr.fv_product_of (show 5 ≤ 5 by decide) rfl) tbl_nil)) hr (rm.tr pn xe) (xa_cons (xe_lst (xa_cons (w_var 1) xa_nil)) xa_nil))))))
  (xs_one (xs_ret (xe_and (w_isX fr.f_isinstance fr.cl_InvalidFraction (w_var 2)) (xe_and1 (xe_eq rm (w_val (w_var 2)) (w_var 1))))))))
theorem sc_law : FnScope ["script", "index", "generator", "number", "strange", "odd", "call", "door", "kind", "good", "at"] ["script"] (defScope s_law) := ⟨rfl, rfl, rfl, by decide +kernel, rfl, by decide +kernel, by decide +kernel⟩
theorem ok_law (fr : Fre P K mg) (F : Fu K mg "law" s_law) (C__law_generator : Cal P w K mg base 2 "_law_generator" s__law_generator ["script", "index"] m__law_generator) (C__law_random : Cal P w K mg base 2 "_law_random" s__law_random ["generator", "bound"] m__law_random) (C__law_caught : Cal P w K mg base 8 "_law_caught" s__law_caught ["door", "other"] m__law_caught) (C__law_pick : Cal P w K mg base 3 "_law_pick" s__law_pick ["generator", "things"] m__law_pick) (C__law_alone : Cal P w K mg base 6 "_law_alone" s__law_alone ["call", "odd"] m__law_alone) : Cal P w K mg base 9 "law" s_law ["script"] m_law :=
  cal_of (k := 8) (N := ["script", "index", "generator", "number", "strange", "odd", "call", "door", "kind", "good", "at"]) (b := b_law) F sc_law (fun _ _ _ _ _ _ us hl => match us, hl with | [_], _ => rfl) fun f cdv A outer s H hr rm =>
  (xs_cons (w_for [1] (xi_range1 rfl fr.f_range (xa_cons xe_int xa_nil)) (w_gn 1 sc_law.nd) (xs_cons (w_own 2 sc_law.nd (w_call C__law_generator hr rm (xa_cons (w_var 0) (xa_cons (w_var 1) xa_nil))))
  (xs_cons (w_set 3 sc_law.nd (xe_add xe_int (w_call C__law_random hr rm (xa_cons (w_var 2) (xa_cons (xe_pow xe_int xe_int) xa_nil)))))
  (xs_cons (w_set 4 sc_law.nd (xe_lst (xa_cons xe_non (xa_cons xe_bl (xa_cons xe_bl (xa_cons xe_str (xa_cons xe_str (xa_cons xe_dict0 (xa_cons (xe_tup xa_nil) (xa_cons (xe_tup (xa_cons xe_str xa_nil)) (xa_cons (xe_lst (xa_cons xe_int (xa_cons xe_int xa_nil))) (xa_cons (xe_tup (xa_cons xe_int (xa_cons xe_int (xa_cons xe_int xa_nil)))) (xa_cons (xe_tup (xa_cons xe_int (xa_cons xe_int xa_nil))) (xa_cons (xe_tup (xa_cons xe_int (xa_cons xe_int xa_nil))) (xa_cons (xe_tup (xa_cons xe_int (xa_cons (xe_sub xe_int xe_int) xa_nil))) (xa_cons (xe_tup (xa_cons xe_int (xa_cons xe_int xa_nil))) (xa_cons (xe_tup (xa_cons xe_bl (xa_cons xe_int xa_nil))) (xa_cons (xe_tup (xa_cons xe_int (xa_cons xe_bl xa_nil))) (xa_cons (xe_tup (xa_cons (w_var 3) (xa_cons (w_var 3) xa_nil))) (xa_cons (xe_tup (xa_cons (xe_mul (w_var 3) xe_int) (xa_cons xe_int xa_nil))) xa_nil))))))))))))))))))))
  (xs_cons (xs_setC (i := 4) (own := [("odd", 5)]) rfl sc_law.nd rfl rfl (sw_true rfl rfl rfl rfl) (xi_seq (w_var 4)) (blkOk_by rfl) (fun _ _ _ _ _ => (w_gn 5 sc_law.nd)) (fun _ _ _ _ _ => (xts_one (xt_ne rm.blk (xe_repr rm.blk rfl fr.f_repr (xa_cons (w_var 5) xa_nil)) xe_str))) (fun _ _ _ _ _ => (w_var 5)))
  (xs_cons (w_for [7, 8] (xi_enum rfl fr.f_enumerate (xa_cons (xe_lst (xa_cons xe_int (xa_cons xe_int (xa_cons xe_int (xa_cons xe_int (xa_cons xe_int (xa_cons xe_int (xa_cons xe_int (xa_cons xe_int xa_nil))))))))) xa_nil)) (xg_tup rfl (xgs_cons (w_gn 7 sc_law.nd) (xgs_cons (w_gn 8 sc_law.nd) xgs_nil))) (xs_one (w_for [5] (xi_seq (xe_add (xe_add (w_var 4) (xe_if (xt_eq rm (w_var 7) xe_int) (xe_lst (xa_cons xe_int xa_nil)) (xe_lst xa_nil))) (xe_if (xt_gt rm (w_var 8) xe_int) (xe_lst (xa_cons (w_var 3) (xa_cons (xe_sub xe_int (w_var 3)) (xa_cons xe_int xa_nil)))) (xe_lst xa_nil)))) (w_gn 5 sc_law.nd) (xs_one (xs_if (xt_w (xw_or (xt_ne rm (w_var 8) xe_int) (xw_or1 (xt_not (xt_of (xe_isi rfl fr.f_isinstance rfl fr.f_list (by decide +kernel) (w_var 5))))))) (xs_one (xs_if (xt_ne rm (w_call C__law_caught hr rm (xa_cons (w_var 7) (xa_cons (w_var 5) xa_nil))) (xe_lst (xa_cons (xe_comp (own := [("at", 10)]) rfl sc_law.nd (xi_range1 rfl fr.f_range (xa_cons xe_int xa_nil)) (blkOk_by rfl) (fun _ _ _ _ _ => (w_gn 10 sc_law.nd)) (fun _ _ _ _ _ => xts_nil) (fun _ _ _ _ _ => (xe_eq rm.blk (w_var 10) (w_var 8)))) (xa_cons (xe_repr rm rfl fr.f_repr (xa_cons (w_var 5) xa_nil)) xa_nil)))) (xs_one (xs_ret xe_bl)) xs_nil)) xs_nil)))))
  (xs_cons (w_for [5] (xi_seq (xe_lst (xa_cons xe_int (xa_cons xe_non (xa_cons xe_bl (xa_cons xe_str (xa_cons (xe_lst (xa_cons xe_int xa_nil)) xa_nil))))))) (w_gn 5 sc_law.nd) (xs_one (xs_if (xt_ne rm (w_call C__law_caught hr rm (xa_cons xe_int (xa_cons (w_var 5) xa_nil))) (xe_lst (xa_cons (xe_lst (xa_cons xe_bl (xa_cons xe_bl (xa_cons xe_bl xa_nil)))) (xa_cons (xe_repr rm rfl fr.f_repr (xa_cons (w_var 5) xa_nil)) xa_nil)))) (xs_one (xs_ret xe_bl)) xs_nil)))
  (xs_cons (w_for [5] (xi_seq (xe_add (w_var 4) (xe_lst (xa_cons (w_var 3) xa_nil)))) (w_gn 5 sc_law.nd) (xs_one (w_for [7] (xi_seq (xe_lst (xa_cons xe_int (xa_cons xe_int xa_nil)))) (w_gn 7 sc_law.nd) (xs_one (xs_if (xt_ne rm (w_call C__law_caught hr rm (xa_cons (w_var 7) (xa_cons (xe_tup (xa_cons (w_var 5) (xa_cons (w_call C__law_pick hr rm (xa_cons (w_var 2) (xa_cons (xe_lst (xa_cons xe_int (xa_cons xe_int (xa_cons (w_call C__law_random hr rm (xa_cons (w_var 2) (xa_cons xe_int xa_nil))) xa_nil)))) xa_nil))) xa_nil))) xa_nil))) (xe_lst (xa_cons (xe_lst (xa_cons xe_bl (xa_cons xe_bl (xa_cons xe_bl xa_nil)))) (xa_cons (xe_repr rm rfl fr.f_repr (xa_cons (w_var 5) xa_nil)) xa_nil)))) (xs_one (xs_ret xe_bl)) xs_nil)))))
  (xs_cons (w_for [6] (xi_seq (xe_lst (xa_cons (w_gval fr.fv_sum_of.g) (xa_cons (w_gval fr.fv_product_of.g) xa_nil)))) (w_gn 6 sc_law.nd) (xs_one (xs_if (xt_not (xt_of (w_call C__law_alone hr rm (xa_cons (w_var 6) (xa_cons (xe_tup (xa_cons xe_int (xa_cons xe_int xa_nil))) xa_nil))))) (xs_one (xs_ret xe_bl)) xs_nil)))
  (xs_cons (w_for [7, 9] (xi_seq (xe_lst (xa_cons (xe_tup (xa_cons xe_int (xa_cons (xe_sub xe_int (w_var 3)) xa_nil))) (xa_cons (xe_tup (xa_cons xe_int (xa_cons (xe_lst (xa_cons (xe_tup (xa_cons (w_var 3) (xa_cons xe_int xa_nil))) xa_nil)) xa_nil))) xa_nil)))) (xg_tup rfl (xgs_cons (w_gn 7 sc_law.nd) (xgs_cons (w_gn 9 sc_law.nd) xgs_nil))) (xs_one (xs_if (xt_ne rm (w_call C__law_caught hr rm (xa_cons (w_var 7) (xa_cons (w_var 9) xa_nil))) (xe_lst (xa_cons (xe_mul (xe_lst (xa_cons xe_bl xa_nil)) xe_int) (xa_cons xe_non xa_nil)))) (xs_one (xs_ret xe_bl)) xs_nil)))
  (xs_one (xs_if (xt_ne rm (w_call C__law_caught hr rm (xa_cons xe_int (xa_cons (xe_tup (xa_cons (w_var 3) (xa_cons xe_int xa_nil))) xa_nil))) (xe_lst (xa_cons (xe_lst (xa_cons xe_bl (xa_cons xe_bl (xa_cons xe_bl xa_nil)))) (xa_cons (xe_repr rm rfl fr.f_repr (xa_cons xe_non xa_nil)) xa_nil)))) (xs_one (xs_ret xe_bl)) xs_nil))))))))))))
  (xs_one (xs_ret xe_bl)))
theorem all_ok (fr : Fre P K mg) (F_is_whole : Fu K mg "is_whole" s_is_whole) (F_check_list : Fu K mg "check_list" s_check_list) (F_common_of : Fu K mg "common_of" s_common_of) (F_is_fraction : Fu K mg "is_fraction" s_is_fraction) (F_check_fraction : Fu K mg "check_fraction" s_check_fraction) (F_lowest_of : Fu K mg "lowest_of" s_lowest_of) (F_fraction_of : Fu K mg "fraction_of" s_fraction_of) (F_plus_of : Fu K mg "plus_of" s_plus_of) (F_times_of : Fu K mg "times_of" s_times_of) (F_less_than : Fu K mg "less_than" s_less_than) (F_check_fractions : Fu K mg "check_fractions" s_check_fractions) (F_sum_of : Fu K mg "sum_of" s_sum_of) (F_product_of : Fu K mg "product_of" s_product_of) (F_is_less : Fu K mg "is_less" s_is_less) (F__law_hash : Fu K mg "_law_hash" s__law_hash) (F__law_cell : Fu K mg "_law_cell" s__law_cell) (F__law_generator : Fu K mg "_law_generator" s__law_generator) (F__law_random : Fu K mg "_law_random" s__law_random) (F__law_pick : Fu K mg "_law_pick" s__law_pick) (F__law_call : Fu K mg "_law_call" s__law_call) (F__law_right_call : Fu K mg "_law_right_call" s__law_right_call) (F__law_caught : Fu K mg "_law_caught" s__law_caught) (F__law_alone : Fu K mg "_law_alone" s__law_alone) (F_law : Fu K mg "law" s_law) : Cal P w K mg base 9 "law" s_law ["script"] m_law := by
  have C_is_whole := ok_is_whole (P := P) (w := w) (base := base) fr F_is_whole
  have C_check_list := ok_check_list (P := P) (w := w) (base := base) fr F_check_list
  have C_common_of := ok_common_of (P := P) (w := w) (base := base) fr F_common_of
  have C_is_fraction := ok_is_fraction (P := P) (w := w) (base := base) fr F_is_fraction C_is_whole C_common_of
  have C_check_fraction := ok_check_fraction (P := P) (w := w) (base := base) fr F_check_fraction C_is_fraction
  have C_lowest_of := ok_lowest_of (P := P) (w := w) (base := base) fr F_lowest_of C_common_of
  have C_fraction_of := ok_fraction_of (P := P) (w := w) (base := base) fr F_fraction_of C_is_whole C_lowest_of
  have C_plus_of := ok_plus_of (P := P) (w := w) (base := base) fr F_plus_of C_lowest_of
  have C_times_of := ok_times_of (P := P) (w := w) (base := base) fr F_times_of C_lowest_of
  have C_less_than := ok_less_than (P := P) (w := w) (base := base) fr F_less_than
  have C_check_fractions := ok_check_fractions (P := P) (w := w) (base := base) fr F_check_fractions C_check_list C_check_fraction
  have C_sum_of := ok_sum_of (P := P) (w := w) (base := base) fr F_sum_of C_check_fractions C_plus_of
  have C_product_of := ok_product_of (P := P) (w := w) (base := base) fr F_product_of C_check_fractions C_times_of
  have C_is_less := ok_is_less (P := P) (w := w) (base := base) fr F_is_less C_check_fraction C_less_than
  have C__law_hash := ok__law_hash (P := P) (w := w) (base := base) fr F__law_hash
  have C__law_cell := ok__law_cell (P := P) (w := w) (base := base) fr F__law_cell
  have C__law_generator := ok__law_generator (P := P) (w := w) (base := base) fr F__law_generator C__law_cell
  have C__law_random := ok__law_random (P := P) (w := w) (base := base) fr F__law_random C__law_hash
  have C__law_pick := ok__law_pick (P := P) (w := w) (base := base) fr F__law_pick C__law_random
  have C__law_call := ok__law_call (P := P) (w := w) (base := base) fr F__law_call C_fraction_of C_sum_of C_product_of C_is_less
  have C__law_right_call := ok__law_right_call (P := P) (w := w) (base := base) fr F__law_right_call C_fraction_of C_is_less C__law_call
  have C__law_caught := ok__law_caught (P := P) (w := w) (base := base) fr F__law_caught C__law_call C__law_right_call
  have C__law_alone := ok__law_alone (P := P) (w := w) (base := base) fr F__law_alone C_product_of C_sum_of
  exact ok_law fr F_law C__law_generator C__law_random C__law_caught C__law_pick C__law_alone
end
def d_is_whole : He.DefD := ⟨("is_whole", none), "is_whole", "is_whole", defArgs s_is_whole, defBody s_is_whole, defScope s_is_whole, [], []⟩
def d_check_list : He.DefD := ⟨("check_list", none), "check_list", "check_list", defArgs s_check_list, defBody s_check_list, defScope s_check_list, [], []⟩
def d_common_of : He.DefD := ⟨("common_of", none), "common_of", "common_of", defArgs s_common_of, defBody s_common_of, defScope s_common_of, [], []⟩
def d_is_fraction : He.DefD := ⟨("is_fraction", none), "is_fraction", "is_fraction", defArgs s_is_fraction, defBody s_is_fraction, defScope s_is_fraction, [], []⟩
def d_check_fraction : He.DefD := ⟨("check_fraction", none), "check_fraction", "check_fraction", defArgs s_check_fraction, defBody s_check_fraction, defScope s_check_fraction, [], []⟩
def d_lowest_of : He.DefD := ⟨("lowest_of", none), "lowest_of", "lowest_of", defArgs s_lowest_of, defBody s_lowest_of, defScope s_lowest_of, [], []⟩
def d_fraction_of : He.DefD := ⟨("fraction_of", none), "fraction_of", "fraction_of", defArgs s_fraction_of, defBody s_fraction_of, defScope s_fraction_of, [], []⟩
def d_plus_of : He.DefD := ⟨("plus_of", none), "plus_of", "plus_of", defArgs s_plus_of, defBody s_plus_of, defScope s_plus_of, [], []⟩
def d_times_of : He.DefD := ⟨("times_of", none), "times_of", "times_of", defArgs s_times_of, defBody s_times_of, defScope s_times_of, [], []⟩
def d_less_than : He.DefD := ⟨("less_than", none), "less_than", "less_than", defArgs s_less_than, defBody s_less_than, defScope s_less_than, [], []⟩
def d_check_fractions : He.DefD := ⟨("check_fractions", none), "check_fractions", "check_fractions", defArgs s_check_fractions, defBody s_check_fractions, defScope s_check_fractions, [], []⟩
def d_sum_of : He.DefD := ⟨("sum_of", none), "sum_of", "sum_of", defArgs s_sum_of, defBody s_sum_of, defScope s_sum_of, [], []⟩
def d_product_of : He.DefD := ⟨("product_of", none), "product_of", "product_of", defArgs s_product_of, defBody s_product_of, defScope s_product_of, [], []⟩
def d_is_less : He.DefD := ⟨("is_less", none), "is_less", "is_less", defArgs s_is_less, defBody s_is_less, defScope s_is_less, [], []⟩
def d__law_hash : He.DefD := ⟨("_law_hash", none), "_law_hash", "_law_hash", defArgs s__law_hash, defBody s__law_hash, defScope s__law_hash, [], []⟩
def d__law_cell : He.DefD := ⟨("_law_cell", none), "_law_cell", "_law_cell", defArgs s__law_cell, defBody s__law_cell, defScope s__law_cell, [], []⟩
def d__law_generator : He.DefD := ⟨("_law_generator", none), "_law_generator", "_law_generator", defArgs s__law_generator, defBody s__law_generator, defScope s__law_generator, [], []⟩
def d__law_random : He.DefD := ⟨("_law_random", none), "_law_random", "_law_random", defArgs s__law_random, defBody s__law_random, defScope s__law_random, [], []⟩
def d__law_pick : He.DefD := ⟨("_law_pick", none), "_law_pick", "_law_pick", defArgs s__law_pick, defBody s__law_pick, defScope s__law_pick, [], []⟩
def d__law_call : He.DefD := ⟨("_law_call", none), "_law_call", "_law_call", defArgs s__law_call, defBody s__law_call, defScope s__law_call, [], []⟩
def d__law_right_call : He.DefD := ⟨("_law_right_call", none), "_law_right_call", "_law_right_call", defArgs s__law_right_call, defBody s__law_right_call, defScope s__law_right_call, [], []⟩
def d__law_caught : He.DefD := ⟨("_law_caught", none), "_law_caught", "_law_caught", defArgs s__law_caught, defBody s__law_caught, defScope s__law_caught, [], []⟩
def d__law_alone : He.DefD := ⟨("_law_alone", none), "_law_alone", "_law_alone", defArgs s__law_alone, defBody s__law_alone, defScope s__law_alone, [], []⟩
def d_law : He.DefD := ⟨("law", none), "law", "law", defArgs s_law, defBody s_law, defScope s_law, [], []⟩
def fn : List He.DefD := [d_is_whole, d_check_list, d_common_of, d_is_fraction, d_check_fraction, d_lowest_of, d_fraction_of, d_plus_of, d_times_of, d_less_than, d_check_fractions, d_sum_of, d_product_of, d_is_less, d__law_hash, d__law_cell, d__law_generator, d__law_random, d__law_pick, d__law_call, d__law_right_call, d__law_caught, d__law_alone, d_law]
def fa : List He.Fa := [.glo "is_whole", .glo "check_list", .glo "common_of", .glo "is_fraction", .glo "check_fraction", .glo "lowest_of", .glo "fraction_of", .glo "plus_of", .glo "times_of", .glo "less_than", .glo "check_fractions", .glo "sum_of", .glo "product_of", .glo "is_less", .glo "_law_hash", .glo "_law_cell", .glo "_law_generator", .glo "_law_random", .glo "_law_pick", .glo "_law_call", .glo "_law_right_call", .glo "_law_caught", .glo "_law_alone", .glo "law", .free "abs", .free "bool", .free "enumerate", .free "int", .free "isinstance", .free "len", .free "list", .free "max", .free "range", .free "repr", .free "sum", .free "super", .free "tuple", .glo "InvalidFraction", .glo "InvalidList", .glo "InvalidNumber", .glo "SameError"]
def i_SameError : HX.IniD := ⟨"SameError", "SameError.__init__", defArgs (clsInit (top 1)), defBody (clsInit (top 1)), defScope (clsInit (top 1)), (PySem.Challenge.rw_eversame_k04_fractions_refused).prog.main.file⟩
def ini : List HX.IniD := [i_SameError]
def xs : List (PySem.W.Frag → Bool) := [HX.clsB "InvalidFraction", HX.clsB "InvalidList", HX.clsB "InvalidNumber", HX.clsB "SameError", HX.baseB "SameError", HX.raB "SameError" "InvalidFraction", HX.raB "SameError" "InvalidList", HX.raB "SameError" "InvalidNumber", HX.fnvB "product_of", HX.fnvB "sum_of", HX.opB]
abbrev R : PySem.W.OpenRow := PySem.W.OpenLaw.row PySem.Challenge.rw_eversame_k04_fractions_refused
abbrev hk : PySem.W.Hook := HX.hookX 4 fa fn xs ini
def ob (s : PySem.W.SharedT) : HX.AlX := HX.obsXG 4 fa fn xs ini (HandSHeadRun.getT s)
theorem ob_eq (s : PySem.W.SharedT) : ob s = hk.obs s.abs := HX.obsXG_eq (HandSHeadRun.getT_eq s)
def loose : List PySem.Str := [("__name__" : PySem.Str), ("SameError" : PySem.Str), ("InvalidNumber" : PySem.Str), ("InvalidFraction" : PySem.Str), ("InvalidList" : PySem.Str), ("is_whole" : PySem.Str), ("check_list" : PySem.Str), ("common_of" : PySem.Str), ("is_fraction" : PySem.Str), ("check_fraction" : PySem.Str), ("lowest_of" : PySem.Str), ("fraction_of" : PySem.Str), ("plus_of" : PySem.Str), ("times_of" : PySem.Str), ("less_than" : PySem.Str), ("check_fractions" : PySem.Str), ("sum_of" : PySem.Str), ("product_of" : PySem.Str), ("is_less" : PySem.Str), ("_law_hash" : PySem.Str), ("_law_cell" : PySem.Str), ("_law_generator" : PySem.Str), ("_law_random" : PySem.Str), ("_law_pick" : PySem.Str), ("_law_call" : PySem.Str), ("_law_right_call" : PySem.Str), ("_law_caught" : PySem.Str), ("_law_alone" : PySem.Str)]
theorem run (w : World) : HandSHeadRun.RunEq R (PySem.W.view R.prog [31]) hk ob 8000 loose w := by
  intro os
  kernel_rfl
theorem facts {w : World} {K : PySem.W.Frag} {h : Heap} {mg : Str → Option Value} (X : K.In h) (G : h.Ns mainGlobals mg) (c : HX.SaysX fa fn xs ini K) : ∀ base : Heap, Cal (PySem.Challenge.rw_eversame_k04_fractions_refused).prog w K mg base 9 "law" s_law ["script"] m_law := fun base => by
  have F_is_whole : Fu K mg "is_whole" s_is_whole := by
    obtain ⟨fd, F⟩ := c.d.def_ 0 (d := d_is_whole) rfl
    exact ⟨_, fd, F, He.glo_ok X G (c.d.fact 0 (f := .glo "is_whole") rfl)⟩
  have F_check_list : Fu K mg "check_list" s_check_list := by
    obtain ⟨fd, F⟩ := c.d.def_ 1 (d := d_check_list) rfl
    exact ⟨_, fd, F, He.glo_ok X G (c.d.fact 1 (f := .glo "check_list") rfl)⟩
  have F_common_of : Fu K mg "common_of" s_common_of := by
    obtain ⟨fd, F⟩ := c.d.def_ 2 (d := d_common_of) rfl
    exact ⟨_, fd, F, He.glo_ok X G (c.d.fact 2 (f := .glo "common_of") rfl)⟩
  have F_is_fraction : Fu K mg "is_fraction" s_is_fraction := by
    obtain ⟨fd, F⟩ := c.d.def_ 3 (d := d_is_fraction) rfl
    exact ⟨_, fd, F, He.glo_ok X G (c.d.fact 3 (f := .glo "is_fraction") rfl)⟩
  have F_check_fraction : Fu K mg "check_fraction" s_check_fraction := by
    obtain ⟨fd, F⟩ := c.d.def_ 4 (d := d_check_fraction) rfl
    exact ⟨_, fd, F, He.glo_ok X G (c.d.fact 4 (f := .glo "check_fraction") rfl)⟩
  have F_lowest_of : Fu K mg "lowest_of" s_lowest_of := by
    obtain ⟨fd, F⟩ := c.d.def_ 5 (d := d_lowest_of) rfl
    exact ⟨_, fd, F, He.glo_ok X G (c.d.fact 5 (f := .glo "lowest_of") rfl)⟩
  have F_fraction_of : Fu K mg "fraction_of" s_fraction_of := by
    obtain ⟨fd, F⟩ := c.d.def_ 6 (d := d_fraction_of) rfl
    exact ⟨_, fd, F, He.glo_ok X G (c.d.fact 6 (f := .glo "fraction_of") rfl)⟩
  have F_plus_of : Fu K mg "plus_of" s_plus_of := by
    obtain ⟨fd, F⟩ := c.d.def_ 7 (d := d_plus_of) rfl
    exact ⟨_, fd, F, He.glo_ok X G (c.d.fact 7 (f := .glo "plus_of") rfl)⟩
  have F_times_of : Fu K mg "times_of" s_times_of := by
    obtain ⟨fd, F⟩ := c.d.def_ 8 (d := d_times_of) rfl
    exact ⟨_, fd, F, He.glo_ok X G (c.d.fact 8 (f := .glo "times_of") rfl)⟩
  have F_less_than : Fu K mg "less_than" s_less_than := by
    obtain ⟨fd, F⟩ := c.d.def_ 9 (d := d_less_than) rfl
    exact ⟨_, fd, F, He.glo_ok X G (c.d.fact 9 (f := .glo "less_than") rfl)⟩
  have F_check_fractions : Fu K mg "check_fractions" s_check_fractions := by
    obtain ⟨fd, F⟩ := c.d.def_ 10 (d := d_check_fractions) rfl
    exact ⟨_, fd, F, He.glo_ok X G (c.d.fact 10 (f := .glo "check_fractions") rfl)⟩
  have F_sum_of : Fu K mg "sum_of" s_sum_of := by
    obtain ⟨fd, F⟩ := c.d.def_ 11 (d := d_sum_of) rfl
    exact ⟨_, fd, F, He.glo_ok X G (c.d.fact 11 (f := .glo "sum_of") rfl)⟩
  have F_product_of : Fu K mg "product_of" s_product_of := by
    obtain ⟨fd, F⟩ := c.d.def_ 12 (d := d_product_of) rfl
    exact ⟨_, fd, F, He.glo_ok X G (c.d.fact 12 (f := .glo "product_of") rfl)⟩
  have F_is_less : Fu K mg "is_less" s_is_less := by
    obtain ⟨fd, F⟩ := c.d.def_ 13 (d := d_is_less) rfl
    exact ⟨_, fd, F, He.glo_ok X G (c.d.fact 13 (f := .glo "is_less") rfl)⟩
  have F__law_hash : Fu K mg "_law_hash" s__law_hash := by
    obtain ⟨fd, F⟩ := c.d.def_ 14 (d := d__law_hash) rfl
    exact ⟨_, fd, F, He.glo_ok X G (c.d.fact 14 (f := .glo "_law_hash") rfl)⟩
  have F__law_cell : Fu K mg "_law_cell" s__law_cell := by
    obtain ⟨fd, F⟩ := c.d.def_ 15 (d := d__law_cell) rfl
    exact ⟨_, fd, F, He.glo_ok X G (c.d.fact 15 (f := .glo "_law_cell") rfl)⟩
  have F__law_generator : Fu K mg "_law_generator" s__law_generator := by
    obtain ⟨fd, F⟩ := c.d.def_ 16 (d := d__law_generator) rfl
    exact ⟨_, fd, F, He.glo_ok X G (c.d.fact 16 (f := .glo "_law_generator") rfl)⟩
  have F__law_random : Fu K mg "_law_random" s__law_random := by
    obtain ⟨fd, F⟩ := c.d.def_ 17 (d := d__law_random) rfl
    exact ⟨_, fd, F, He.glo_ok X G (c.d.fact 17 (f := .glo "_law_random") rfl)⟩
  have F__law_pick : Fu K mg "_law_pick" s__law_pick := by
    obtain ⟨fd, F⟩ := c.d.def_ 18 (d := d__law_pick) rfl
    exact ⟨_, fd, F, He.glo_ok X G (c.d.fact 18 (f := .glo "_law_pick") rfl)⟩
  have F__law_call : Fu K mg "_law_call" s__law_call := by
    obtain ⟨fd, F⟩ := c.d.def_ 19 (d := d__law_call) rfl
    exact ⟨_, fd, F, He.glo_ok X G (c.d.fact 19 (f := .glo "_law_call") rfl)⟩
  have F__law_right_call : Fu K mg "_law_right_call" s__law_right_call := by
    obtain ⟨fd, F⟩ := c.d.def_ 20 (d := d__law_right_call) rfl
    exact ⟨_, fd, F, He.glo_ok X G (c.d.fact 20 (f := .glo "_law_right_call") rfl)⟩
  have F__law_caught : Fu K mg "_law_caught" s__law_caught := by
    obtain ⟨fd, F⟩ := c.d.def_ 21 (d := d__law_caught) rfl
    exact ⟨_, fd, F, He.glo_ok X G (c.d.fact 21 (f := .glo "_law_caught") rfl)⟩
  have F__law_alone : Fu K mg "_law_alone" s__law_alone := by
    obtain ⟨fd, F⟩ := c.d.def_ 22 (d := d__law_alone) rfl
    exact ⟨_, fd, F, He.glo_ok X G (c.d.fact 22 (f := .glo "_law_alone") rfl)⟩
  have F_law : Fu K mg "law" s_law := by
    obtain ⟨fd, F⟩ := c.d.def_ 23 (d := d_law) rfl
    exact ⟨_, fd, F, He.glo_ok X G (c.d.fact 23 (f := .glo "law") rfl)⟩
  have cl_InvalidFraction := HX.clsB_ok X G (c.d.fact 37 (f := .glo "InvalidFraction") rfl) (c.x 0 (x := HX.clsB "InvalidFraction") rfl)
  have cl_InvalidList := HX.clsB_ok X G (c.d.fact 38 (f := .glo "InvalidList") rfl) (c.x 1 (x := HX.clsB "InvalidList") rfl)
  have cl_InvalidNumber := HX.clsB_ok X G (c.d.fact 39 (f := .glo "InvalidNumber") rfl) (c.x 2 (x := HX.clsB "InvalidNumber") rfl)
  have cl_SameError := HX.clsB_ok X G (c.d.fact 40 (f := .glo "SameError") rfl) (c.x 3 (x := HX.clsB "SameError") rfl)
  have be_SameError := HX.baseB_ok (c.x 4 (x := HX.baseB "SameError") rfl)
  have fsup := He.free_ok X G (c.d.fact 35 (f := .free "super") rfl)
  have txt := c.txt (P := (PySem.Challenge.rw_eversame_k04_fractions_refused).prog) 0 (d := i_SameError) rfl rfl rfl rfl rfl rfl (by kernel_rfl) (HX.opB_ok (c.x 10 (x := HX.opB) rfl))
  exact all_ok {f_abs := He.free_ok X G (c.d.fact 24 (f := .free "abs") rfl), f_bool := He.free_ok X G (c.d.fact 25 (f := .free "bool") rfl), f_enumerate := He.free_ok X G (c.d.fact 26 (f := .free "enumerate") rfl), f_int := He.free_ok X G (c.d.fact 27 (f := .free "int") rfl), f_isinstance := He.free_ok X G (c.d.fact 28 (f := .free "isinstance") rfl), f_len := He.free_ok X G (c.d.fact 29 (f := .free "len") rfl), f_list := He.free_ok X G (c.d.fact 30 (f := .free "list") rfl), f_max := He.free_ok X G (c.d.fact 31 (f := .free "max") rfl), f_range := He.free_ok X G (c.d.fact 32 (f := .free "range") rfl), f_repr := He.free_ok X G (c.d.fact 33 (f := .free "repr") rfl), f_sum := He.free_ok X G (c.d.fact 34 (f := .free "sum") rfl), f_super := He.free_ok X G (c.d.fact 35 (f := .free "super") rfl), f_tuple := He.free_ok X G (c.d.fact 36 (f := .free "tuple") rfl), cl_InvalidFraction := ⟨_, cl_InvalidFraction⟩, cl_InvalidList := ⟨_, cl_InvalidList⟩, cl_InvalidNumber := ⟨_, cl_InvalidNumber⟩, be_SameError := ⟨_, cl_SameError, be_SameError⟩, ra_InvalidFraction := HX.raC_of X G txt fsup (c.d.fact 37 (f := .glo "InvalidFraction") rfl) (c.x 5 (x := HX.raB "SameError" "InvalidFraction") rfl), ra_InvalidList := HX.raC_of X G txt fsup (c.d.fact 38 (f := .glo "InvalidList") rfl) (c.x 6 (x := HX.raB "SameError" "InvalidList") rfl), ra_InvalidNumber := HX.raC_of X G txt fsup (c.d.fact 39 (f := .glo "InvalidNumber") rfl) (c.x 7 (x := HX.raB "SameError" "InvalidNumber") rfl), fv_product_of := HX.fnv_of X G (c.d.fact 12 (f := .glo "product_of") rfl) (c.x 8 (x := HX.fnvB "product_of") rfl), fv_sum_of := HX.fnv_of X G (c.d.fact 11 (f := .glo "sum_of") rfl) (c.x 9 (x := HX.fnvB "sum_of") rfl)} F_is_whole F_check_list F_common_of F_is_fraction F_check_fraction F_lowest_of F_fraction_of F_plus_of F_times_of F_less_than F_check_fractions F_sum_of F_product_of F_is_less F__law_hash F__law_cell F__law_generator F__law_random F__law_pick F__law_call F__law_right_call F__law_caught F__law_alone F_law
end My
open PySem PySem.W PySem.Calls PyProof.Rows
theorem My.holds (hm : ∀ ns : List Int, ns.length ≤ 63 → (∀ z ∈ ns, Builtin.Int.intBits z ≤ 1048576) → My.m_law [.dat (.list (ns.map .int))] [] = some (.dat (.bool true), [])) : PySem.Challenge.rw_eversame_k04_fractions_refused.Holds := by
  w_on; o_law
  refine HandSHeadRun.head_any (r := OpenLaw.row PySem.Challenge.rw_eversame_k04_fractions_refused) (q := view (OpenLaw.row PySem.Challenge.rw_eversame_k04_fractions_refused).prog [31]) (H := My.hk) (ob := My.ob) (M := 8000) (loose := My.loose) (d := HandSHeadRun.topDef (OpenLaw.row PySem.Challenge.rw_eversame_k04_fractions_refused).prog 31) (kwd := []) My.ob_eq
    (by kernel_rfl) (fun s => by kernel_rfl) My.run (by kernel_rfl) (by kernel_rfl) (by kernel_rfl) (by rfl) (by first | assumption | decide +kernel) (by decide +kernel) ⟨rfl, rfl, rfl, rfl, rfl, by decide +kernel⟩ ?hw ?hc
  case hw => w_witness2
  case hc =>
    refine DL.walk_ofD (l := PySem.Challenge.rw_eversame_k04_fractions_refused) (n := 63) (k := 9) (x := "script") (m := My.m_law) rfl (by decide) (by kernel_rfl) ⟨rfl, by decide, by decide⟩ ?F hm
    intro w mg fa h Y G hmg0
    obtain ⟨K, KX, c⟩ := Y
    have hmg : mg ("law" : PySem.Str) = some (.ref fa) := by
      have e : (HandSHeadRun.topDef (OpenLaw.row PySem.Challenge.rw_eversame_k04_fractions_refused).prog 31).name = ("law" : PySem.Str) := by kernel_rfl
      rw [← e]
      exact hmg0
    obtain ⟨f, fd, F, _, hm', _⟩ := (My.facts (w := w) KX G c h).ex
    have e := hmg.symm.trans hm'
    cases e
    refine ⟨K, fd, KX, fun s v => (L2.FunD.bindsA (ps := ["script"]) F fun _ _ _ _ _ _ us hl => match us, hl with | [_], _ => rfl) s [v] rfl, fun base kb nb => ?_⟩
    obtain ⟨f2, fd2, F2, D2, hm2, _⟩ := (My.facts (w := w) kb nb c base).ex
    have e2 := hmg.symm.trans hm2
    cases e2
    obtain ⟨_, _, _, _, _, _, _, _, _, _, q1, l1, _, _, _⟩ := F.ex
    obtain ⟨_, _, _, _, _, _, _, _, _, _, q2, l2, _, _, _⟩ := F2.ex
    have e3 := l1.symm.trans l2
    cases e3
    exact D2
theorem PySem.Challenge.cw_eversame_k04_fractions_refused_holds : PySem.Challenge.rw_eversame_k04_fractions_refused.Holds := by
  exact My.holds fun ns hl hb => My.law_eq hl hb
