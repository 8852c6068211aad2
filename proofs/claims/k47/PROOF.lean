import PyProof.Rows.All
import Wide.All
import OpenK.AllK
import Wide.FinOn
import PyProof.IsiH_set
import PyProof.FactsAll.object
import KE.KIsAll
import HandS.IsInst
import HandS.ForMost
import HandS.ExcInit
import KE.KExcSuper
import HandS.ExcField
import HandS.ExcIs
import HandS.ExcValue
import KE.KExcIs
import HandS.Defaults
import KE.KDictWalk
import KE.DataEq
import KE.DataCmp
import KE.DataIsa
import PyProof.ReprRoads
import HandS.Wide
import HandS.Flow
import HandS.Style
import HandS.TupAny
import HandS.TupMul
import HandS.WideBits
import HandS.StrMore
import HandS.SortInts
import HandS.Small
import HandS.Comp
import HandS.Zip
import HandS.WordsExc
import PyProof.Rows.StrOr
import HandS.RaiseMore
import PyProof.ListStr
import KE.SortData
import HandS.Text
import HandS.Dict
import PyProof.ReprBulk
import HandS.Ends
import HandS.EndBits
import HandS.Head0
import HandS.Head1
import HandS.Head2
import HandS.HeadEnd
import HandS.HeadHook1
import HandS.HeadHook2
import KE.DataAny
import HandS.Conv
import PySem.Challenge.RW_eversame_k47_whole_sound_and_bounded
set_option Elab.async false
set_option linter.all false
set_option maxRecDepth 100000
set_option maxHeartbeats 0
/-! FK: isinstance of a def's object. -/
namespace PySem
open Sem (wp)
namespace FK
theorem slot_ga : Slot "function" "__getattribute__" "object.__getattribute__" :=
  .of (owner := "object") (n := "__getattribute__") (by rw [typeLookup_type, builtinLookup_eq_fast]; kernel_rfl) (by decide +kernel) (by decide +kernel) (by decide +kernel)
    (by first | exact .inl (by decide +kernel) | exact .inr (by decide +kernel)) (by rw [isSubtype_type]; kernel_rfl)
theorem lk_class : typeLookup (.type "function") "__class__" = pure (some (.builtin "object.__class__")) := by rw [typeLookup_type, builtinLookup_eq_fast]; kernel_rfl
theorem sub_class_owner : isSubtype (.type "function") (.type (".".intercalate ("object.__class__".cutAt '.').dropLast)) = pure true := by
  rw [F.owner_object_class, isSubtype_type]; kernel_rfl
end FK
section
variable {prog : Program} {w : World} {A : Around} {E : Value → Shared → Prop} {h : Heap} {g : Array GenState} {d : Drawn} {t : Nat} {os : OsState} {a : Addr} {o : Obj}
theorem fk_get {R : Result → Shared → Prop} (hx : h.get? a = some o) (hc : o.cls = .type "function") (hq : R (.ok (.ret (.type "function"))) ⟨h, g, d, t, os⟩) :
    codeAny (model prog w) A (.call (.builtin "getset_descriptor.__get__") ⟨[.builtin "object.__class__", .ref a, .type "function"], []⟩) R ⟨h, g, d, t, os⟩ := by
  have hT : (⟨h, g, d, t, os⟩ : Shared).TypeIs (.ref a) "function" := ⟨_, hx, hc⟩
  have hT5 : (⟨h, g, d, t, os⟩ : Shared).TypeIs (.builtin "object.__class__") "getset_descriptor" := F.typeOf_object_class
  have f8 := FK.sub_class_owner
  refine codeAny_call_builtin F.slot_gs_get.plain F.entry_gs_get (F.slot_gs_get.check _ _ _ _ _ _ _ _ hT5 (F.args_gs_get _ _ _) ?_)
  repeat (any_goals (first | assumption | wp_step))
  refine ⟨Code.quiet_builtin _ (by decide +kernel), codeAny_builtin F.entry_object_class ?_⟩
  repeat (any_goals (first | assumption | wp_step))
theorem fk_entry {tk : Tok} {Q : Fin → Shared → Prop} (hx : h.get? a = some o) (hc : o.cls = .type "function") (hq : Q (.done (.ret (.type "function"))) ⟨h, g, d, t, os⟩) :
    wpAny (model prog w) A (Builtin.«object.__getattribute__» ⟨[.ref a, .str "__class__" tk], []⟩) Q E ⟨h, g, d, t, os⟩ := by
  have hT : (⟨h, g, d, t, os⟩ : Shared).TypeIs (.ref a) "function" := ⟨_, hx, hc⟩
  have hT5 : (⟨h, g, d, t, os⟩ : Shared).TypeIs (.builtin "object.__class__") "getset_descriptor" := F.typeOf_object_class
  have f4 := FK.lk_class
  have f5 := F.typeOf_object_class
  have f6 := F.slot_gs_get.lookup
  have f7 := F.slot_gs_set.lookup
  repeat (any_goals (first | assumption | wp_step))
  refine fk_get hx hc ?_
  repeat (any_goals (first | assumption | wp_step))
theorem fk_call {tk : Tok} {R : Result → Shared → Prop} (hx : h.get? a = some o) (hc : o.cls = .type "function") (hq : R (.ok (.ret (.type "function"))) ⟨h, g, d, t, os⟩) :
    codeAny (model prog w) A (.call (.builtin "object.__getattribute__") ⟨[.ref a, .str "__class__" tk], []⟩) R ⟨h, g, d, t, os⟩ :=
  codeAny_call_builtin FK.slot_ga.plain F.entry_object_getattribute (FK.slot_ga.check _ _ _ _ _ _ _ _ (show (⟨h, g, d, t, os⟩ : Shared).TypeIs (.ref a) "function" from ⟨_, hx, hc⟩) (F.args_object_getattribute_2 _ _) (fk_entry hx hc hq))
theorem fk_by {tk : Tok} {Q : Value → Shared → Prop} (hx : h.get? a = some o) (hc : o.cls = .type "function") (hq : Q (.type "function") ⟨h, g, d, t, os⟩) : wpAny (model prog w) A (getAttrBy (.ref a) (.str "__class__" tk) false) Q E ⟨h, g, d, t, os⟩ := by
  have hT : (⟨h, g, d, t, os⟩ : Shared).TypeIs (.ref a) "function" := ⟨_, hx, hc⟩
  have f2 := FK.slot_ga.lookup
  have f3 := FK.slot_ga.bind (.ref a)
  repeat (any_goals (first | assumption | wp_step))
  refine fk_call hx hc ?_
  repeat (any_goals (first | assumption | wp_step))
theorem fk_attr {Q : Option Value → Shared → Prop} (hx : h.get? a = some o) (hc : o.cls = .type "function") (hq : Q (some (.type "function")) ⟨h, g, d, t + 1, os⟩) : wpAny (model prog w) A (getAttr? (.ref a) "__class__") Q E ⟨h, g, d, t, os⟩ := by
  unfold getAttr? getAttrBy?
  repeat (any_goals (first | assumption | with_reducible apply fk_by hx hc | wp_step))
end
theorem fk_kit {K : W.Frag} {a : Addr} : W.KitX K (.ref a) (.type "function") (W.KitAt a "function") := W.kitx_of W.kitAt_ty (fun {_ _ _ _ _ s} p k => by obtain ⟨h, g, d, t, os⟩ := s; obtain ⟨o, h1, h2⟩ := p; exact fk_attr h1 h2 k)
end PySem
/-! EX1: an own exception class, and its subclasses, whose __init__ says super().__init__(value); self.value = value: the walk of __init__, and of the making. -/
namespace SEX
open PySem PySem.W PySem.Calls PyProof.Rows PySem.HandSPX
def iA (p1 p2 : Pos) : Arguments := { posonlyargs := [], args := [{ arg := "self", annotation := none, pos := p1 }, { arg := "value", annotation := none, pos := p2 }], vararg := none, kwonlyargs := [], kw_defaults := [], kwarg := none, defaults := [] }
def iB (q1 q2 q3 q4 q5 q6 q7 q8 q9 q10 : Pos) : List Stmt := [.Expr (.Call (.Attribute (.Call (.Name "super" q1) [] [] q2) "__init__" q3) [.Name "value" q4] [] q5) q6, .Assign [.Attribute (.Name "self" q7) "value" q8] (.Name "value" q9) q10]
def iS : Scope := { kind := .function, names := [(PySem.Str.ofString "self", .local), (PySem.Str.ofString "value", .local), (PySem.Str.ofString "__class__", .free), (PySem.Str.ofString "super", .globalImplicit)], isGenerator := false, isCoroutine := false, more := [] }
/-- what the written part says of the class that has __init__, at D, and of its __init__, at fI -/
structure SeTxt (prog : Program) (K : Frag) (qual : Str) (D fI : Addr) : Prop where
  fn : ∃ (oc : Value) (od : Option Addr) (doc pm : Value) (an : Option Addr) (cda cc : Addr) (ct : Value) (osl : Array (Option Value)) (p1 p2 q1 q2 q3 q4 q5 q6 q7 q8 q9 q10 : Pos),
    (q3.endLine == q5.line) = true ∧ K.lookup fI = some ⟨oc, od, .func (ksFn "__init__" qual (iA p1 p2) (iB q1 q2 q3 q4 q5 q6 q7 q8 q9 q10) iS .none .none doc pm an (.ref cda) ct cc), osl⟩ ∧ codeIn K (.ref cda) qual = true ∧
    (∃ (ccl : Value) (cdd : Option Addr) (vs : Array Value) (ccs : Array (Option Value)) (file : Str) (tf : Tok), K.lookup cda = some ⟨ccl, cdd, .fields vs, ccs⟩ ∧ vs[2]? = some (.str file tf) ∧ ((prog.main.file : Str) == file) = true) ∧
    ∃ (cl : Value) (cld : Option Addr) (csl : Array (Option Value)), K.lookup cc = some ⟨cl, cld, .cell (some (.ref D)), csl⟩
  hD : (clsIn K D).isSome = true
  top : (prog.main.scope.names.lookup ("super" : Str)).isSome = false
  op : nsIn K cStatics "thirdparty.any" = some none
/-- what it says of a class that is raised, at C -/
structure SeCls (K : Frag) (D fI C : Addr) : Prop where
  cls : ∃ nm q N bs bm sn sub ab col dd k0 k1 k2 k3 k5, K.lookup C = some (excClassObj nm q C N bs bm true sn sub ab col dd k0 k1 k2 k3 k5 "ValueError.__new__") ∧ refsVE bm = true
  sa : findIn K (.ref C) "__setattr__" = some (some (.builtin "object.__setattr__"))
  noV : findIn K (.ref C) "value" = some none
  iC : findIn K (.ref C) "__init__" = some (some (.ref fI))
  tI : typeIn K (.ref fI) = some (.type "function")
  kC : keepIn K (.ref C) = true
  exC : subIn K (.ref C) (.type "BaseException") = some true
  veC : subIn K (.ref C) (.type "ValueError") = some true
  tyC : typeIn K (.ref C) = some (.type "type")
  mD : mroIn K C (.ref D) = some true
  su : ks_superIn K C D "__init__" = some (some (.builtin "ValueError.__init__"))
/-- what __init__ leaves of a fresh exception at x -/
structure InitEnd (h h' : Heap) (x C dx : Addr) (v : Value) : Prop where
  keep : ∀ b o, b ≠ x → h.get? b = some o → h'.get? b = some o
  obj : ∃ t1 : Addr, h'.get? x = some { cls := .ref C, dict := some dx, data := .fields #[.ref t1, .none, .none, .none, .bool false, .none] }
  dbig : h.objs.size ≤ dx
  dne : dx ≠ x
  ns : h'.Ns1 dx (fun y => if y = "value" then some v else none)
section
variable {prog : Program} {w : World} {A : Around} {E : Value → Shared → Prop} {R : Result → Shared → Prop} {s : Shared} {K : Frag} {mg mb : Str → Option Value} {qual : Str} {D C fI : Addr}
theorem mcpos {few : Bool} {o : Expr} {env : Env} {apos pos : Pos} (h : (apos.endLine == pos.line) = true) : methodCallPos few o env apos pos = pure pos := by
  unfold methodCallPos
  rw [h, Bool.or_true, if_pos rfl]
theorem mceval {env : Env} {args : List Expr} {name : Str} {apos pos : Pos} {p1 p2 : Pos} {x : Str} (h : (apos.endLine == pos.line) = true) (hf : methodCallForm args.length (backTo pos (starEach args env)) [] = true) : eval (.Call (.Attribute (.Call (.Name x p1) [] [] p2) name apos) args [] pos) env = (do
      let ov ← attributeBase (.Call (.Name x p1) [] [] p2) name env (eval (.Call (.Name x p1) [] [] p2) env)
      standAt apos.atName
      let (f, first) ← holding [ov] (getMethod ov name (do return (← importBound (.Call (.Name x p1) [] [] p2) env).getD true))
      callWith pos f first (backTo pos (starEach args env)) []) := by
  show (do
    let ov ← attributeBase (.Call (.Name x p1) [] [] p2) name env (eval (.Call (.Name x p1) [] [] p2) env)
    standAt apos.atName
    methodCall (.Call (.Name x p1) [] [] p2) name apos pos env ov args.length (backTo pos (starEach args env)) []) = _
  unfold methodCall
  rw [mcpos h, hf]
  rfl
/-- the built-in __init__ bound to a fresh exception, called -/
theorem call_mw {h : Heap} {g : Array GenState} {d : Drawn} {t : Nat} {os : OsState} {u e t0 : Addr} {rest : List Value} {Q : Value → Shared → Prop} {nm q : Str} {N : Addr} {bs bm : List Value} {sn : List Str} {sub : List Value} {ab : Bool} {col : Option Bool} {dd : Option Addr} {k0 k1 k2 k3 k5 : Option Value}
    (hC : h.get? C = some (excClassObj nm q C N bs bm true sn sub ab col dd k0 k1 k2 k3 k5 "ValueError.__new__")) (he : h.get? e = some (excO C t0)) (hu : h.get? u = some (kxs_mw "ValueError.__init__" e)) (hrest : rest.length ≤ sizeLine)
    (hq : ∀ h' t1, (∀ b o, b ≠ e → h.get? b = some o → h'.get? b = some o) → h'.get? e = some (excO C t1) → Q .none ⟨h', g, d, t, os⟩) :
    wpAny (model prog w) A (call (.ref u) rest) Q E ⟨h, g, d, t, os⟩ := by
  refine wpAny_call (codeAny_of_tree ?_)
  show wpAny _ A.in1 (callAny (.ref u) ⟨rest, []⟩) _ _ _
  simp only [callAny]
  refine wpAny_bind (wpAny_load hu ?_)
  simp only [kxs_mw, show (Value.type "method-wrapper" == Value.type "method" || Value.type "method-wrapper" == Value.type "builtin_function_or_method" || Value.type "method-wrapper" == Value.type "method-wrapper") = true by decide, if_true]
  refine W.KFB.if_so (by decide) ?_
  refine wpAny_bind (check_bound_init F.excBase_ValueError.toExcCallFacts hC he rfl ?_)
  refine wpAny_bind (wpAny_pure (wpAny_pure ?_))
  refine ⟨Code.quiet_builtin _ (by decide +kernel), codeAny_builtin F.excBase_ValueError.initEntry ?_⟩
  rw [Around.under_plainId F.excBase_ValueError.init.plain _]
  wp_walk
  refine hq _ h.objs.size (fun b o hb ho => ?_) ?_
  · rw [Heap.get?_update_other _ _ (Ne.symm hb)]
    exact Heap.get?_push_of_some _ ho
  · rw [Heap.get?_update_self _ (Heap.get?_push_of_some _ he) rfl]
    rfl
theorem one_size (v : Value) : [v].length ≤ sizeLine := by
  rw [sizeLine_eq]
  exact (by decide : 1 ≤ 16777216)
theorem se_init (T : SeTxt prog K qual D fI) (TC : SeCls K D fI C) {x t0 : Addr} {v : Value} (X : K.In s.heap) (hlim : s.heap.NoLimit) (hg : s.heap.Ns mainGlobals mg) (hms : mg "super" = none) (hb : s.heap.Ns builtinsNs mb) (hmb : mb "super" = bootBuiltins "super")
    (hx : s.heap.get? x = some (excO C t0)) (hnx : K.lookup x = none) (hroom : A.depth < recursionLimit)
    (hq : ∀ h' tk dx, InitEnd s.heap h' x C dx v → R (.ok (.ret .none)) { s with heap := h', toks := tk }) :
    codeAny (model prog w) A (.call (.ref fI) ⟨[.ref x, v], []⟩) R s := by
  obtain ⟨⟨oc, od, doc, pm, an, cda, cc, ct, osl, p1, p2, q1, q2, q3, q4, q5, q6, q7, q8, q9, q10, hql, ho, hcd, ⟨ccl, cdd, vs, ccs, file, tf, hcda, hvs, hfile⟩, cl, cld, csl, hcc⟩, hDs, htop, hop⟩ := T
  obtain ⟨cdD, hD⟩ := Option.isSome_iff_exists.mp hDs
  obtain ⟨nm, q, N, bs, bm, sn, sub, ab, col, dd, k0, k1, k2, k3, k5, hC, hbm⟩ := TC.cls
  have hcl : clsIn K C = some { name := nm, bases := bs, mro := .ref C :: bm, ns := N, qualname := q, hasDict := true, slotNames := sn, subclasses := sub, abstract := ab, collection := col, hasDel := false } := by unfold clsIn; rw [hC] <;> rfl
  refine ks_codeAny_call_defAt (fd := ksFn "__init__" qual (iA p1 p2) (iB q1 q2 q3 q4 q5 q6 q7 q8 q9 q10) iS .none .none doc pm an (.ref cda) ct cc) (body := iB q1 q2 q3 q4 q5 q6 q7 q8 q9 q10) (binds := [("self", .ref x), ("value", v)]) hroom (X _ _ ho) rfl hlim (codeRec_of X hcd) rfl
    (BindsTo.of_eq (by first | rfl | with_unfolding_all rfl)) (show ∀ x ∈ iS.names, x.2 ≠ .cell by decide) (by intro y hy; first | (simp only [List.mem_cons, List.not_mem_nil, or_false] at hy; rcases hy with rfl | rfl <;> rfl)) (fun h₁ hn k => ?_) rfl rfl rfl
  have X₁ : K.In h₁ := X.keeps k
  have hx₁ := k _ _ hx
  have hvx : List.lookup ("self" : Str) ([(("self" : Str), Value.ref x), (("value" : Str), v)] : List (Str × Value)).reverse = some (Value.ref x) := by first | rfl | with_unfolding_all rfl | kernel_rfl
  have hvv : List.lookup ("value" : Str) ([(("self" : Str), Value.ref x), (("value" : Str), v)] : List (Str × Value)).reverse = some v := by first | rfl | with_unfolding_all rfl | kernel_rfl
  have hL : s.heap.objs.size < h₁.objs.size := hn.lt
  have hxL : s.heap.objs.size ≠ x := Nat.ne_of_gt (Heap.lt_size hx)
  obtain ⟨oD, hD1, hD2⟩ : ∃ oD, h₁.get? D = some oD ∧ oD.data = .cls cdD := by
    unfold clsIn at hD
    split at hD
    · rename_i c d cd' sl ho
      cases hD
      exact ⟨_, X₁ _ _ ho, rfl⟩
    · cases hD
  have hsu := TC.su
  unfold ks_superIn at hsu
  rw [hcl] at hsu
  -- super().__init__(value)
  refine ks_wpAt_execs_cons (ks_wpAt_Expr_any (ks_wpAt_MethodCall (he := mceval hql (by rfl)) ?_))
  refine ks_wpAt_super_base (env := callEnv (ksFn "__init__" qual (iA p1 p2) (iB q1 q2 q3 q4 q5 q6 q7 q8 q9 q10) iS .none .none doc pm an (.ref cda) ct cc) s.heap.objs.size fI) (by rfl) (by rfl) (by decide +kernel) rfl (X₁ _ _ ho) rfl (by rfl) rfl (X₁ _ _ hcda) rfl hvs hfile htop ?_
  refine ks_loadName_global (by rfl) (by rfl) (loadGlobal_builtin (hg.keeps k) hms (hb.keeps k) hmb ⟨rfl, ?_⟩)
  refine wpAny_loadName_free (by rfl) (by rfl) (by rfl) ⟨_, X₁ _ _ hcc, rfl⟩ ?_
  refine wpAny_loadName_local (by rfl) (by rfl) hn hvx ?_
  refine ks_wpAny_isType_cls hD1 hD2 ⟨rfl, ?_⟩
  refine ks_wpAny_call_super hD1 hD2 hx₁ rfl (fun c e => by cases e) (looks_mroIn X₁ TC.mD) (fun h₂ e₂ k₂ => ?_)
  have X₂ : K.In h₂ := X₁.keeps k₂
  have hx₂ := k₂ _ _ hx₁
  have I₂ : InstAt h₂ x (excO C t0) C none := ⟨hx₂, rfl, rfl, trivial⟩
  refine kxs_getMethod kxs_ValueError (h := h₂) e₂ (looks_opaque X₂ hop) (l₀ := .ref C :: bm) (fun A Q E s k q => wpAny_bind ((looks_clsIn X₂ hcl) A _ E s k (wpAny_pure q))) rfl X₂ hsu (I₂.type.andThen (looks_subIn X₂ TC.veC)) (ks_ne X₂ I₂ hcl) (by decide +kernel) ?_
  have k₃ : ∀ b o, h₂.get? b = some o → (h₂.push (kxs_mw "ValueError.__init__" x)).get? b = some o := fun b o e => Heap.get?_push_of_some _ e
  have e₃ : (h₂.push (kxs_mw "ValueError.__init__" x)).get? h₂.objs.size = some (kxs_mw "ValueError.__init__" x) := Heap.get?_push_at rfl rfl
  have hn₃ := (hn.keeps k₂).keeps k₃
  refine kxs_callWith (i := "ValueError.__init__") (x := x) (by rfl) (evalArgs_plain ?_)
  refine Calls.spliced_cons (wpAny_Name (wpAny_loadName_local (by rfl) (by rfl) hn₃ hvv ?_) (by decide))
  refine Calls.spliced_nil ⟨e₃, ?_⟩
  refine call_mw (h := h₂.push (kxs_mw "ValueError.__init__" x)) (X.keeps k |>.keeps k₂ |>.keeps k₃ |> fun Y => Y _ _ hC) (k₃ _ _ hx₂) e₃ (one_size v) fun h₄ t1 k₄ hx₄ => ?_
  have kk : ∀ b o, b ≠ x → s.heap.get? b = some o → h₄.get? b = some o := fun b o hb e => k₄ b o hb (k₃ _ _ (k₂ _ _ (k _ _ e)))
  have X₄ : K.In h₄ := fun a o e => kk a o (fun z => by rw [z, hnx] at e; cases e) (X a o e)
  have hn₄ := hn₃.at fun o e => k₄ _ _ hxL e
  -- self.value = value
  show PySem.wpAt _ _ _ (execs _ _) _ _ _
  refine ks_wpAt_execs_cons (ks_wpAt_Assign_Attr (wpAt_of_wpAny (wpAny_Name (wpAny_loadName_local (by rfl) (by rfl) hn₄ hvv ?_) (by decide))))
  refine wpAny_Name (wpAny_loadName_local (by rfl) (by rfl) hn₄ hvx ?_) (by decide)
  refine set_plain X₄ (ox := excO C t1) (od := none) ⟨hx₄, rfl, rfl, trivial⟩ TC.sa ?_
  refine exc_osa X₄ hx₄ hcl (show refsVE (.ref C :: bm) = true from hbm) rfl TC.noV (fun h₅ tk₅ dx k₅ dn dne hx₅ hn₅ => ?_)
  have z : s.heap.objs.size ≤ dx := by
    obtain ⟨o, es, ep, e, _⟩ := hn₄
    exact Nat.le_trans (Nat.le_of_lt (Heap.lt_size e)) dn
  show PySem.wpAt _ _ _ (execs _ _) _ _ _
  exact wpAt_of_wpAny (wpAny_execs_nil (hq h₅ tk₅ dx ⟨fun b o hb e => k₅ b o hb (kk b o hb e), ⟨t1, hx₅⟩, z, dne, hn₅⟩))
/-- a made exception of the class at C, with its value -/
structure OwnMade (h h' : Heap) (e C d : Addr) (v : Value) : Prop where
  keep : ∀ b o, h.get? b = some o → h'.get? b = some o
  new : h.objs.size ≤ e
  obj : ∃ oe vs, h'.get? e = some oe ∧ oe.cls = .ref C ∧ oe.dict = some d ∧ oe.data = .fields vs ∧ vs[1]? = some .none
  dbig : h.objs.size ≤ d
  dne : d ≠ e
  ns : h'.Ns1 d (fun y => if y = "value" then some v else none)
theorem se_made (T : SeTxt prog K qual D fI) (TC : SeCls K D fI C) {v : Value} (X : K.In s.heap) (hlim : s.heap.NoLimit) (hg : s.heap.Ns mainGlobals mg) (hms : mg "super" = none) (hb : s.heap.Ns builtinsNs mb) (hmb : mb "super" = bootBuiltins "super") (hroom : A.depth + 1 < recursionLimit)
    (hq : ∀ h' tk e d, OwnMade s.heap h' e C d v → R (.ok (.ret (.ref e))) { s with heap := h', toks := tk }) :
    codeAny (model prog w) A (.call (.ref C) ⟨[v], []⟩) R s := by
  obtain ⟨nm, q, N, bs, bm, sn, sub, ab, col, dd, k0, k1, k2, k3, k5, hC, hbm⟩ := TC.cls
  obtain ⟨hp, g, dr, tk, os⟩ := s
  have k : ∀ b o, hp.get? b = some o → ((hp.push (kdv_tup [v])).push (excO C hp.objs.size)).get? b = some o := fun b o e => Heap.get?_push_of_some _ (Heap.get?_push_of_some _ e)
  have hget : ((hp.push (kdv_tup [v])).push (excO C hp.objs.size)).get? (hp.objs.size + 1) = some (excO C hp.objs.size) := by heap_get
  have hnx : K.lookup (hp.objs.size + 1) = none := by
    cases e : K.lookup (hp.objs.size + 1) with
    | none => rfl
    | some o =>
      have z : hp.get? (hp.objs.size + 1) = some o := X _ _ e
      exact absurd (Nat.lt_of_succ_lt (Heap.lt_size z)) (Nat.lt_irrefl _)
  refine call_own F.excBase_ValueError (fun X => refsVE_contains X bm hbm) (X _ _ hC) (looks_findIn X TC.iC) (fun self => bind_fn X self TC.tI) (one_size v) ?_
  refine se_init (s := ⟨(hp.push (kdv_tup [v])).push (excO C hp.objs.size), g, dr, tk, os⟩) T TC (X.keeps k) (hlim.keeps k) (hg.keeps k) hms (hb.keeps k) hmb hget hnx ?_ fun h' tk' dx ⟨k', hx, dn, dne, hns⟩ => ?_
  · show A.depth + 1 < recursionLimit
    exact hroom
  · obtain ⟨t1, hx⟩ := hx
    have old : ∀ b o, hp.get? b = some o → h'.get? b = some o := fun b o e => k' b o (Nat.ne_of_lt (Nat.lt_succ_of_lt (Heap.lt_size e))) (k b o e)
    have z : hp.objs.size + 1 + 1 ≤ dx := by
      first
        | (simpa only [Heap.size_push] using dn)
        | exact dn
        | (have q := dn; rw [Heap.size_push, Heap.size_push] at q; exact q)
    exact ⟨rfl, hq h' tk' (hp.objs.size + 1) dx ⟨old, Nat.le_succ _, ⟨_, _, hx, rfl, rfl, rfl, rfl⟩, Nat.le_trans (Nat.le_trans (Nat.le_succ _) (Nat.le_succ _)) z, dne, hns⟩⟩
end
end SEX
namespace L2
open PySem PySem.Spec PyProof.Rows
theorem relO_val {v : V} {v' : Value} (r : RelV v v') (f : Str) : RelO (List.lookup f [(("value" : Str), v)]) (if f = "value" then some v' else none) := by
  by_cases hw : f = "value"
  · subst hw
    rw [if_pos rfl]
    have q : List.lookup ("value" : Str) [(("value" : Str), v)] = some v := by simp [List.lookup]
    rw [q]
    exact r
  · rw [if_neg hw]
    have qw : (f == ("value" : Str)) = false := by simpa using hw
    have q2 : List.lookup f [(("value" : Str), v)] = none := by simp [List.lookup, qw]
    rw [q2]
    trivial
section
variable {X : Cx} {C D fI : Addr} {qual : Str}
/-- C(e), e's value kept -/
def tMkS (C : Addr) (ta : TA) : St → Hp → XK → Prop := fun σ H Q => ta σ H fun vs H1 => ∃ v, vs = [v] ∧ ∀ d, H1 d = none → Q (.ref C) (some d) (upd H1 d (.xd [(("value" : Str), v)]))
theorem pmk_se {x : Str} {a : Expr} {ta : TA} {p pos : Pos} {k : Nat} (T : SEX.SeTxt X.prog X.K qual D fI) (TC : SEX.SeCls X.K D fI C) (gC : X.mg x = some (.ref C)) (hms : X.mg "super" = none) (hr : Room k X.A) (ha : PA X [a] ta) (hg : Gl X x)
    (hdb : (x == ("__debug__" : Str)) = false := by decide) (he : starEach (a :: []) X.env = (false, eval a X.env) :: starEach [] X.env := by rfl) (hpl : (backTo pos (starEach [] X.env)).any (·.1) = false := by rfl) :
    PMk X (.Call (.Name x p) [a] [] pos) (tMkS C ta) := by
  intro pins s σ H Q I h
  refine wpAny_Call_Name_kw (ld_glob I hg gC ?_ hdb)
  refine PySem.W.callWith_K (h₀ := X.base) I.ok.mod.kin TC.kC (thn (ha.run pos pins s σ H _ I h) fun us s1 hh => ?_) he hpl
  obtain ⟨vs, H1, I1, r1, v, ev, q1⟩ := hh
  subst ev
  refine ⟨I1.kIn, ?_⟩
  cases r1 with
  | cons rv rn =>
    rename_i v' us'
    cases rn
    show wpAny _ _ (call (.ref C) [v']) _ _ _
    have hlim := I1.nolimit
    obtain ⟨mb, hb1, hb2⟩ := I1.mod.blt
    have hglob := I1.mod.glob.keeps I1.bk
    have hblt := hb1.keeps I1.bk
    obtain ⟨hp, g, dr, tk, os⟩ := s1
    refine wpAny_call (SEX.se_made (mb := mb) T TC I1.kIn hlim hglob hms hblt (hb2 "super" (by decide)) (by have := hr.dp; omega) fun h' tk' e d M => ?_)
    show MkP X pins σ Q (.ref e) ⟨h', g, dr, tk', os⟩
    obtain ⟨oe, fv, hoe, hc, hd, hdat, h1⟩ := M.obj
    have hns := M.ns
    obtain ⟨G', g1, g2⟩ := restrict h' fun b => decide (b ≠ e)
    have gk : ∀ b, b ≠ e → G'.get? b = h'.get? b := fun b hb => g1 b (decide_eq_true hb)
    have ge : G'.get? e = none := g2 e (by simp)
    have old : ∀ b o, hp.get? b = some o → G'.get? b = some o := fun b o q => (gk b (Nat.ne_of_lt (Nat.lt_of_lt_of_le (Heap.lt_size q) M.new))).trans (M.keep b o q)
    have ob : ObjOk X.prog X.w (upd H1 d (.xd [(("value" : Str), v)])) G' d (.xd [(("value" : Str), v)]) :=
      ⟨_, hns.at (fun o q => (gk d M.dne).trans q), fun f => relO_val rv f⟩
    have J : Inv X pins σ (upd H1 d (.xd [(("value" : Str), v)])) ⟨G', g, dr, tk', os⟩ := I1.laid (t' := tk') old M.dbig ob
    refine ⟨e, oe, fv, ⟨G', g, dr, tk', os⟩, _, .ref C, some d, rfl, J, fun b o q => ?_, ge, hoe, ⟨hc, hd⟩, hdat, h1, ?_, rfl, I1.bare, raises_own TC.exC TC.tyC, q1 d (I1.hok.fresh M.dbig)⟩
    · by_cases hb : b = e
      · have q' : G'.get? b = some o := q
        rw [hb, ge] at q'; cases q'
      · exact (gk b hb).symm.trans q
    · rw [upd_ne (Ne.symm M.dne)]
      exact I1.hok.fresh M.new
end
end L2
/-! EX2: a caught exception that outlives its except suite: kept as a tracked object; its field, isinstance of it. -/
namespace L2
open PySem PySem.Spec PyProof.Rows
/-- a caught exception of the class cls, its dict d, at a -/
def exv (a : Addr) (cls : Value) (d : Option Addr) : HO := .ext fun h => ∃ (oe : Obj) (vs : Array Value), h.get? a = some oe ∧ Zc cls d oe ∧ oe.data = .fields vs
theorem exv_ok {P : Program} {w : World} {H : Hp} {h : Heap} {a : Addr} {cls : Value} {d : Option Addr} {oe : Obj} (e : h.get? a = some oe) (z : Zc cls d oe) (hd : ∃ vs, oe.data = .fields vs) : ObjOk P w H h a (exv a cls d) := by
  obtain ⟨vs, hd⟩ := hd
  exact ⟨⟨oe, vs, e, z, hd⟩, ⟨oe, e⟩, fun _ _ ⟨o, v, q, r⟩ k => ⟨o, v, k o q, r⟩⟩
section
variable {X : Cx} {pins : List (Addr × Obj)} {σ : St} {H : Hp} {s : Shared}
/-- an object that stands in the heap and is new is tracked from now on -/
theorem Inv.track {a : Addr} {o : HO} (I : Inv X pins σ H s) (na : H a = none) (n0 : X.s_0.heap.get? a = none) (nL : a ≠ X.env.locals) (nC : ∀ x c, X.env.cells.lookup x = some c → c ≠ a) (nP : ∀ p ∈ X.pn ++ pins, p.1 ≠ a) (new : ObjOk X.prog X.w (upd H a o) s.heap a o) : Inv X pins σ (upd H a o) s := by
  have ne0 : ∀ b u, X.s_0.heap.get? b = some u → b ≠ a := fun b u e z => by
    rw [z, n0] at e
    cases e
  refine ⟨I.ok, I.os, I.bare, ⟨I.base.keep, I.base.slot, fun b u e n hx => ?_, I.base.there, fun b xs e => ?_, fun b u v e => ?_, fun b ps e => ?_⟩, I.loc, I.cell, ?_, fun x c e => ?_, fun p hp => ?_, I.hok.laidN (fun _ _ q => q) na new, I.len⟩
  · rw [upd_ne (ne0 b u e)]
    exact I.base.free b u e n hx
  · have q := I.base.tups b xs e
    rw [upd_ne (ne_of_none q na)]
    exact q
  · have q := I.base.frzs b u v e
    rw [upd_ne (ne_of_none q na)]
    exact q
  · obtain ⟨m, q⟩ := I.base.tbls b ps e
    exact ⟨m, by rw [upd_ne (ne_of_none q na)]; exact q⟩
  · rw [upd_ne (Ne.symm nL)]
    exact I.free
  · rw [upd_ne (nC x c e)]
    exact I.freeC x c e
  · obtain ⟨e, n, ne, nf, d⟩ := I.pin p hp
    exact ⟨e, by rw [upd_ne (nP p hp)]; exact n, ne, nf, d⟩
end
/-- the catch: the exception is kept as a tracked object where the suite goes on -/
def wKp (K : PySem.W.Frag) (c : Value) (i : Nat) (ts : Addr → Value → Option Addr → TS) (Wout : WX) (D : Ends) : WX := fun cls d σ H =>
  ∃ b, PySem.W.exmOne K cls c = some b ∧ (b = true → ∀ a, H a = none → ts a cls d { nx := fun σ' H' => D.nx (σ'.set i none) (upd H' a (exv a cls d)), rt := D.rt, bk := fun σ' H' => D.bk (σ'.set i none) H', ct := fun σ' H' => D.ct (σ'.set i none) H' } (σ.set i (some (.ref a))) H) ∧
    (b = false → Wout cls d σ H)
section
variable {X : Cx} {x n : Str} {c : Value} {i : Nat} {body suite : List Stmt} {b₀ : Stmt} {np pos pos' : Pos} {tb : WX → TS} {ts : Addr → Value → Option Addr → TS} {Wout : WX}
theorem ps_try_keep (hex : X.ex = []) (hs : X.stack = X.env :: X.outer) (hf : X.env.frame = some X.env.locals) (hN : X.N.Nodup) (hi : X.N[i]? = some n) (hln : X.env.kindOf n = some .local) (hc : Names X x c) (tk : Takes X Wout)
    (hb : ∀ (W : WX) (pn : List (Addr × Obj)) (xe : Value → Shared → Prop), Takes (X.tr pn xe) W → PassesOwn (model X.prog X.w) X.A X.env xe → PSs (X.tr pn xe) body (tb W))
    (hsu : ∀ (a : Addr) (oe : Obj) (cls : Value) (d : Option Addr) (pn : List (Addr × Obj)), Zc cls d oe → (∃ vs, oe.data = .fields vs) → PSs (X.suite a ((a, oe) :: pn)) (b₀ :: suite) (ts a cls d)) :
    PS X (.Try body [.ExceptHandler (some (.Name x np)) (some n) (b₀ :: suite) pos'] [] [] pos) (fun D σ H => tb (wKp X.K c i ts Wout D) D σ H) := by
  refine ⟨fun pins s σ H D I h => ?_⟩
  have ok := I.ok
  have hfr : X.A.frames = some (X.env :: X.outer) := by rw [ok.frames, hs]
  have hloc : Loc X.env.scope n := .inl hln
  refine wpAny_Try_except ?_
  refine wpAny_mono ((hb (wKp X.K c i ts Wout D) (X.pn ++ pins) (fun e s₁ => wpAny (model X.prog X.w) X.A (noteFrame e X.env) (fun _ s₂ => wpAny (model X.prog X.w) X.A (setFlight e none) (fun _ s₃ =>
    wpAny (model X.prog X.w) X.A (handleBy e X.env [.ExceptHandler (some (.Name x np)) (some n) (b₀ :: suite) pos']) (SP X pins D) X.xe s₃) X.xe s₂) X.xe s₁) (fun u s' xx => ?_) PassesOwn.looking).run [] s σ H D (I.toTry _) h) (fun f s1 hsp => ?_) (fun e s1 he => he)
  · obtain ⟨a, B, sI, pins', σ', H', cls, d, rfl, J', nb, up, sky, na, os, ag, b, hb1, hyes, hno⟩ := xx
    have J : Inv X pins σ' H' sI := J'.ofTry ok
    have sky' : Sky B (X.env :: X.outer) a (Zc cls d) X.env.locals s'.heap := by rw [← hs]; exact sky
    show wpAny (model X.prog X.w) X.A (noteFrame (.ref a) X.env) _ _ _
    refine Sky.land Zc.steady hfr hf sky' fun h3 fl3 up3 => ?_
    have J3 : Inv X pins σ' H' { s' with heap := h3 } := J.landed nb fl3.1 (up.trans up3) os ag
    obtain ⟨oe3, vs3, he3, hz3, hd3⟩ := fl3.there
    have notFr : ∀ {h : Heap} {o : Obj} {vs : Array Value}, h.FunFrames B (X.env :: X.outer) → h.get? a = some o → o.data = .fields vs → a ∉ frs (X.env :: X.outer) := fun {h o vs} ff e dd hm => by
      obtain ⟨_, o', e', hnf⟩ := ff.mem hm
      rw [e] at e'; cases e'
      exact hnf _ dd
    have nfr := notFr fl3.2.2.1 he3 hd3
    have nL : a ≠ X.env.locals := fun z => nfr (List.mem_filterMap.mpr ⟨X.env, List.mem_cons_self, by rw [hf, z]⟩)
    have nF : a ∉ X.fs := fun hm => by
      obtain ⟨e, he, q⟩ := List.mem_filterMap.mp hm
      exact nfr (List.mem_filterMap.mpr ⟨e, List.mem_cons_of_mem _ he, q⟩)
    have nI : sI.heap.get? a = none := by
      cases q : sI.heap.get? a with
      | none => rfl
      | some o =>
        have z := nb a o q (by rw [hs]; exact nfr)
        rw [fl3.2.1] at z
        cases z
    have n0 : X.s_0.heap.get? a = none := by
      cases q : X.s_0.heap.get? a with
      | none => rfl
      | some o =>
        obtain ⟨o', z⟩ := J.base.there a o q (by rw [hex]; exact fun z => nomatch z)
        rw [nI] at z
        cases z
    have nP : ∀ p ∈ X.pn ++ pins, p.1 ≠ a := fun p hp z => by
      have q := (J.pin p hp).1
      rw [z, nI] at q
      cases q
    have nC : ∀ y c, X.env.cells.lookup y = some c → c ≠ a := fun y c e z => by
      obtain ⟨v, o, ho, _⟩ := J.cell y c e
      rw [z, nI] at ho
      cases ho
    have S3 := J3.suite he3 hd3 na nL nF
    refine wpAny_handleBy_cons (codeAny_handlers_test ?_) (by intro q; cases q)
    have LT : PySem.W.Looks (model X.prog X.w) h3 (typeOf (.ref a)) cls := fun A Q E s k q => wpAny_typeOf_ref (k _ _ he3) (by rw [hz3.1]; exact q)
    have LM := PySem.W.exm_one (M := model X.prog X.w) (J3.kIn) LT hb1
    have test : ∀ {Q : Value → Shared → Prop} {E : Value → Shared → Prop}, Q c { s' with heap := h3 } → wpAny (model X.prog X.w) (X.A.mark (some (.ref a))) (eval (.Name x np) X.env) Q E { s' with heap := h3 } := fun {Q E} q => by
      obtain ⟨hg, hdbg, hm | ⟨hm, hv, hnn⟩⟩ := hc
      · exact ld_glob (X := X.suite a ((a, oe3) :: (X.pn ++ pins))) S3 hg hm q hdbg
      · exact ld_blt (X := X.suite a ((a, oe3) :: (X.pn ++ pins))) S3 hg hm hv q hnn hdbg
    refine test (LM.here ?_)
    cases b with
    | true =>
      refine codeAny_handlers_suite_as ?_
      refine HandSPX.lands_againZ fl3 fun h4 fl4 up4 => ?_
      have J4 : Inv X pins σ' H' { s' with heap := h4 } := J.landed nb fl4.1 ((up.trans up3).trans up4) os ag
      obtain ⟨oe4, vs4, he4, hz4, hd4⟩ := fl4.there
      have S4 := J4.suite he4 hd4 na nL nF
      refine store_ok (X := X.suite a ((a, oe4) :: (X.pn ++ pins))) (v := .ref a) S4 hN hi hloc rfl (fun s5 S5 => ?_) (.inr hln)
      refine wpAny_mono ((hsu a oe4 cls d (X.pn ++ pins) hz4 ⟨_, hd4⟩).run [] s5 _ H' _ S5 (hyes rfl a na)) (fun f s6 hsp => ?_) (fun _ _ z => False.elim z)
      have end_ : ∀ {σ6 : St} {H6 : Hp} {Q : Shared → Prop}, Inv (X.suite a ((a, oe4) :: (X.pn ++ pins))) [] σ6 H6 s6 → (∀ s7, Inv X pins (σ6.set i none) H6 s7 → Q s7) →
          wpAny (model X.prog X.w) X.A (do bindName X.env n .none; unbindBehindTheSuite X.env n pos') (fun _ s7 => Q s7) X.xe s6 := fun {σ6 H6 Q} S6 hq => gone_ok (S6.unsuite ok) hN hi hln hq
      cases f with
      | next =>
        obtain ⟨σ6, H6, S6, q6⟩ := hsp
        obtain ⟨hp6, hn6, _⟩ := S6.pin (a, oe4) (List.mem_append_left _ List.mem_cons_self)
        exact gone_ok ((S6.unsuite ok).track hn6 n0 nL nC nP (exv_ok hp6 hz4 ⟨_, hd4⟩)) hN hi hln fun s7 J7 => ⟨_, _, J7, q6⟩
      | brk =>
        obtain ⟨σ6, H6, S6, q6⟩ := hsp
        exact end_ S6 fun s7 J7 => ⟨_, _, J7, q6⟩
      | cont =>
        obtain ⟨σ6, H6, S6, q6⟩ := hsp
        exact end_ S6 fun s7 J7 => ⟨_, _, J7, q6⟩
      | ret u =>
        obtain ⟨v6, σ6, H6, S6, r6, q6⟩ := hsp
        exact end_ S6 fun s7 J7 => ⟨_, _, _, J7, r6, q6⟩
    | false =>
      show wpAny _ X.A (handleBy (.ref a) X.env []) _ _ _
      refine wpAny_handleBy_nil ?_
      obtain ⟨k1, k2, k3, oe, vs, T, oT, ts', he, hz, hd, h1, hr⟩ := id fl3
      unfold PySem.passOn
      refine wpAny_bind (wpAny_field he hd h1 ?_)
      rw [if_neg (show ¬ ((Value.ref T == Value.none) = true) from by simp)]
      have fin : wpAny (model X.prog X.w) X.A (setFlight (.ref a) X.env.frame) (fun _ s4 => wpAny (model X.prog X.w) X.A (throw (.ref a) : Sem Flow) (SP X pins D) X.xe s4) X.xe { s' with heap := h3 } := by
        rw [hf]
        refine HandSPX.setFlight_upZ fl3 fun h4 hh4 up4 => wpAny_throw (tk _ _ ?_)
        exact ⟨a, B, sI, pins, σ', H', cls, d, rfl, J, nb, (up.trans up3).trans up4, .inr (.inr (by rw [hs]; exact hh4)), na, os, ag, hno rfl⟩
      first
        | exact wpAny_bind (wpAny_pure (wpAny_bind fin))
        | exact wpAny_bind fin
  · cases f with
    | next =>
      obtain ⟨σ', H', J, q⟩ := hsp
      exact wpAny_execs_nil ⟨σ', H', J.ofTry ok, q⟩
    | brk =>
      obtain ⟨σ', H', J, q⟩ := hsp
      exact ⟨σ', H', J.ofTry ok, q⟩
    | cont =>
      obtain ⟨σ', H', J, q⟩ := hsp
      exact ⟨σ', H', J.ofTry ok, q⟩
    | ret u =>
      obtain ⟨v, σ', H', J, r, q⟩ := hsp
      exact ⟨v, σ', H', J.ofTry ok, r, q⟩
/-- what the class of a kept exception says: its fields are read, isinstance asks it -/
structure KeC (K : PySem.W.Frag) (C : Addr) : Prop where
  f : XfC K C
  i : ExcC K C
  c : (PySem.W.clsIn K C).isSome = true
/-- e.f, e a kept exception -/
def tXk (K : PySem.W.Frag) (f : Str) (te : TE) : TE := fun σ H Q => te σ H fun x H1 => ∃ (a C dd : Addr) (fs : List (Str × V)) (v : V), x = .ref a ∧ KeC K C ∧ PySem.W.findIn K (.ref C) f = some none ∧ H1 a = some (exv a (.ref C) (some dd)) ∧ H1 dd = some (.xd fs) ∧ fs.lookup f = some v ∧ Q v H1
theorem exv_inst {P : Program} {w : World} {H : Hp} {h : Heap} {a C dd : Addr} {fs : List (Str × V)} (hok : HOk P w H h) (e : H a = some (exv a (.ref C) (some dd))) (ed : H dd = some (.xd fs)) :
    ∃ (oe od : Obj) (mA : Str → Option Value), PySem.W.InstAt h a oe C (some od) ∧ (∀ f, PySem.W.lookIn f od = some (mA f)) ∧ ∀ f, RelO (fs.lookup f) (mA f) := by
  have x : ObjOk P w H h a (.ext fun h => ∃ (oe : Obj) (vs : Array Value), h.get? a = some oe ∧ Zc (.ref C) (some dd) oe ∧ oe.data = .fields vs) := hok a _ e
  obtain ⟨⟨oe, vs, he, hz, hd⟩, _⟩ := x
  have y : ObjOk P w H h dd (.xd fs) := hok dd _ ed
  obtain ⟨mA, hns, hr⟩ := y
  obtain ⟨od, ho, hl⟩ := lookIn_ns hns
  exact ⟨oe, od, mA, ⟨he, hz.1, by unfold PySem.W.notCls; rw [hd] <;> rfl, by rw [hz.2]; exact ho⟩, hl, hr⟩
theorem pe_xk {e : Expr} {te : TE} {pos : Pos} {f : Str} (he : PE X e te) (hb : attributeBase e f X.env (eval e X.env) = eval e X.env := by rfl) : PE X (.Attribute e f pos) (tXk X.K f te) := by
  refine ⟨fun pins s σ H Q I h => ?_⟩
  refine attr_of hb (thn (he.run pins s σ H _ I h) fun u s1 hh => ?_)
  obtain ⟨x, H1, I1, rx, a, C, dd, fs, v, ex, T, hno, ea, ed, l, q⟩ := hh
  subst ex
  obtain rfl : u = Value.ref a := rx
  obtain ⟨oe, od, mA, J, hl, hr⟩ := exv_inst I1.hok ea ed
  obtain ⟨u, hu, ru⟩ := RelO.some_of (v := v) (o := mA f) (by rw [← l]; exact hr f)
  exact HandSPX.exc_get I1.kIn J T.f.ga T.f.gg T.f.exC (PySem.W.findObj_own T.f.hdC hno rfl (by rw [hl, hu])) (handed_of ru) ⟨v, H1, I1.tok _, ru, q⟩
/-- isinstance(e, c), e a kept exception -/
def rIsK (K : PySem.W.Frag) : List V → Hp → VK → Prop := fun xs H Q => ∃ (a C dd : Addr) (fs : List (Str × V)) (c : V) (cv : Value) (b : Bool), xs = [.ref a, c] ∧ KeC K C ∧ H a = some (exv a (.ref C) (some dd)) ∧ H dd = some (.xd fs) ∧ (∀ u, RelV c u → u = cv) ∧ PySem.W.kitOne K (.ref C) cv = some b ∧ Q (.bl b) H
theorem call_isK : CallR X (.builtin "isinstance") (rIsK X.K) := by
  intro pins s σ H xs us Q I r h
  obtain ⟨a, C, dd, fs, c, cv, b, rfl, T, ea, ed, hcv, e, q⟩ := h
  cases r with
  | cons rx rr =>
    cases rr with
    | cons rt rr =>
      cases rr
      cases rx
      have ec := hcv _ rt
      subst ec
      obtain ⟨oe, od, mA, J, _, _⟩ := exv_inst I.hok ea ed
      exact PySem.W.kia_one (PySem.W.kitx_exc T.c T.i.hg T.i.hk T.i.hs T.i.ha T.i.hn T.i.ht T.i.hm) I.kIn J e (fun z => nomatch z) fun tk => ⟨.bl b, H, I.kept (t' := tk) fun _ _ z => z, rfl, q⟩
end
end L2
/-! DL: a data layer over the hand layer. Values as plain data; lists that are changed in place as owned cells. -/
namespace DL
open PySem PySem.Spec PyProof.Rows L2

abbrev D := PyData
/-- owned cells: what stands in each (none: given up) -/
abbrev Cs := List (Option (List D))
/-- what an expression gives: data, an owned cell, a fresh list, a caught exception (its class's name, its value) -/
inductive Rv where
  | dat (d : D)
  | own (k : Nat)
  | fr (c : List D)
  | exn (nm : Str) (d : D)
/-- slots: none is no value -/
abbrev Rho := List (Option Rv)

def kD : Key → D
  | .inl i => .int i
  | .inr x => .str x

/-- a list: tracked, or one of the module's own objects -/
def LstAt (K : PySem.W.Frag) (H : Hp) (a : Addr) (xs : List V) : Prop := Rd H a (.lst xs) ∨ ∃ (its : List Value) (n : Nat), K.lookup a = some { cls := .type "list", data := .seq its.toArray n } ∧ xs.length ≤ sizeLine ∧ Vals xs its
theorem LstAt.sq {K : PySem.W.Frag} {H : Hp} {a : Addr} {xs : List V} (h : LstAt K H a xs) : SqL K H a xs := by
  rcases h with h | ⟨its, n, h1, h2, h3⟩
  · exact .inl h
  · exact .inr ⟨_, its.toArray, n, h1, rfl, rfl, rfl, by rw [List.size_toArray, ← h3.length]; exact h2, by simpa using h3⟩
/-- the module's def nm, as a value -/
def fnD (nm : Str) : D := .dict [(.none, .str nm)]
def isFn : List (D × D) → Bool
  | [(.none, .str _)] => true
  | _ => false
def FnAt (K : PySem.W.Frag) (nm : Str) (f : Addr) : Prop := PySem.W.nsIn K mainGlobals nm = some (some (.ref f)) ∧ PySem.W.typeIn K (.ref f) = some (.type "function")
mutual
inductive Rp (K : PySem.W.Frag) (H : Hp) : V → D → Prop
  | non : Rp K H .non .none
  | bl (b : Bool) : Rp K H (.bl b) (.bool b)
  | int (i : Int) : Rp K H (.int i) (.int i)
  | str (x : Str) (h : x.length ≤ sizeLine) : Rp K H (.str x) (.str x)
  | lst {a : Addr} {xs : List V} {ds : List D} : LstAt K H a xs → RpAll K H xs ds → Rp K H (.ref a) (.list ds)
  | tup {a : Addr} {xs : List V} {ds : List D} : SqT K H a xs → RpAll K H xs ds → Rp K H (.ref a) (.tuple ds)
  | dct {a : Addr} {o : Obj} {kvs : List (Key × V)} {ds : List (D × D)} : H a = some (.frz o (.dK kvs)) → kvs.map (fun p => kD p.1) = ds.map (·.1) → RpAll K H (kvs.map (·.2)) (ds.map (·.2)) → Rp K H (.ref a) (.dict ds)
  | fn {f : Addr} {nm : Str} : FnAt K nm f → Rp K H (.ref f) (.dict [(.none, .str nm)])
inductive RpAll (K : PySem.W.Frag) (H : Hp) : List V → List D → Prop
  | nil : RpAll K H [] []
  | cons {v : V} {vs : List V} {d : D} {ds : List D} : Rp K H v d → RpAll K H vs ds → RpAll K H (v :: vs) (d :: ds)
end

section
variable {K : PySem.W.Frag} {H H' : Hp}
theorem rd_mono (h : ∀ a o, H a = some o → H' a = some o) {a : Addr} {u : HO} (q : Rd H a u) : Rd H' a u := by
  rcases q with q | ⟨o, q⟩
  · exact .inl (h _ _ q)
  · exact .inr ⟨o, h _ _ q⟩
theorem sqT_mono (h : ∀ a o, H a = some o → H' a = some o) {a : Addr} {xs : List V} (q : SqT K H a xs) : SqT K H' a xs := q.imp (rd_mono h) id
theorem LstAt.mono (h : ∀ a o, H a = some o → H' a = some o) {a : Addr} {xs : List V} (q : LstAt K H a xs) : LstAt K H' a xs := q.imp (rd_mono h) id
mutual
theorem Rp.mono (h : ∀ a o, H a = some o → H' a = some o) : ∀ {v : V} {d : D}, Rp K H v d → Rp K H' v d
  | _, _, .non => .non
  | _, _, .bl b => .bl b
  | _, _, .int i => .int i
  | _, _, .str x q => .str x q
  | _, _, .lst q r => .lst (q.mono h) (RpAll.mono h r)
  | _, _, .tup q r => .tup (sqT_mono h q) (RpAll.mono h r)
  | _, _, .dct q e r => .dct (h _ _ q) e (RpAll.mono h r)
  | _, _, .fn q => .fn q
theorem RpAll.mono (h : ∀ a o, H a = some o → H' a = some o) : ∀ {vs : List V} {ds : List D}, RpAll K H vs ds → RpAll K H' vs ds
  | _, _, .nil => .nil
  | _, _, .cons a r => .cons (Rp.mono h a) (RpAll.mono h r)
end
theorem RpAll.length : ∀ {vs : List V} {ds : List D}, RpAll K H vs ds → vs.length = ds.length
  | _, _, .nil => rfl
  | _, _, .cons _ r => by rw [List.length_cons, List.length_cons, r.length]
theorem RpAll.get : ∀ {vs : List V} {ds : List D} {i : Nat} {d : D}, RpAll K H vs ds → ds[i]? = some d → ∃ v, vs[i]? = some v ∧ Rp K H v d
  | _, _, _, _, .nil, e => by simp at e
  | _, _, 0, _, .cons a _, e => by simp at e; subst e; exact ⟨_, rfl, a⟩
  | _, _, i + 1, d, .cons _ r, e => by
    obtain ⟨v, h1, h2⟩ := RpAll.get (i := i) (d := d) r (by simpa using e)
    exact ⟨v, by simpa using h1, h2⟩
theorem RpAll.get' : ∀ {vs : List V} {ds : List D} {i : Nat} {v : V}, RpAll K H vs ds → vs[i]? = some v → ∃ d, ds[i]? = some d ∧ Rp K H v d
  | _, _, _, _, .nil, e => by simp at e
  | _, _, 0, _, .cons a _, e => by simp at e; subst e; exact ⟨_, rfl, a⟩
  | _, _, i + 1, d, .cons _ r, e => by
    obtain ⟨v, h1, h2⟩ := RpAll.get' (i := i) (v := d) r (by simpa using e)
    exact ⟨v, by simpa using h1, h2⟩
theorem RpAll.append : ∀ {vs ws : List V} {ds es : List D}, RpAll K H vs ds → RpAll K H ws es → RpAll K H (vs ++ ws) (ds ++ es)
  | _, _, _, _, .nil, s => s
  | _, _, _, _, .cons a r, s => .cons a (RpAll.append r s)
theorem RpAll.take : ∀ {vs : List V} {ds : List D} (n : Nat), RpAll K H vs ds → RpAll K H (vs.take n) (ds.take n)
  | _, _, 0, _ => .nil
  | _, _, _ + 1, .nil => .nil
  | _, _, n + 1, .cons a r => .cons a (RpAll.take n r)
theorem RpAll.drop : ∀ {vs : List V} {ds : List D} (n : Nat), RpAll K H vs ds → RpAll K H (vs.drop n) (ds.drop n)
  | _, _, 0, r => r
  | _, _, _ + 1, .nil => .nil
  | _, _, n + 1, .cons _ r => RpAll.drop n r
theorem RpAll.set {x : V} {d : D} (a : Rp K H x d) : ∀ {vs : List V} {ds : List D} (i : Nat), RpAll K H vs ds → RpAll K H (vs.set i x) (ds.set i d)
  | _, _, _, .nil => .nil
  | _, _, 0, .cons _ r => .cons a r
  | _, _, i + 1, .cons b r => .cons b (RpAll.set a i r)
theorem RpAll.reverse : ∀ {vs : List V} {ds : List D}, RpAll K H vs ds → RpAll K H vs.reverse ds.reverse
  | _, _, .nil => .nil
  | _, _, .cons a r => by rw [List.reverse_cons, List.reverse_cons]; exact (RpAll.reverse r).append (.cons a .nil)
end

/-! ### the cells, the data's heap -/
def live (O : List (Option Addr)) : List Addr := O.filterMap id
theorem mem_live {O : List (Option Addr)} {a : Addr} : a ∈ live O ↔ ∃ i : Nat, O[i]? = some (some a) := by
  unfold live
  rw [List.mem_filterMap]
  constructor
  · rintro ⟨x, hx, e⟩
    have e' : x = some a := e
    subst e'
    exact List.mem_iff_getElem?.mp hx
  · rintro ⟨i, e⟩
    exact ⟨some a, List.mem_of_getElem? e, rfl⟩
/-- the heap of the data: without the owned cells -/
def hd (O : List (Option Addr)) (H : Hp) : Hp := fun a => if a ∈ live O then none else H a
theorem hd_some {O : List (Option Addr)} {H : Hp} {a : Addr} {o : HO} (h : hd O H a = some o) : a ∉ live O ∧ H a = some o := by
  unfold hd at h
  split at h
  · cases h
  · rename_i n
    exact ⟨n, h⟩
theorem hd_of {O : List (Option Addr)} {H : Hp} {a : Addr} {o : HO} (n : a ∉ live O) (h : H a = some o) : hd O H a = some o := by
  unfold hd
  rw [if_neg n]
  exact h
/-- what is not an owned cell stays -/
def Ch (O : List (Option Addr)) (H H' : Hp) : Prop := ∀ a o, a ∉ live O → H a = some o → H' a = some o
theorem Ch.refl {O : List (Option Addr)} {H : Hp} : Ch O H H := fun _ _ _ h => h
theorem Ch.trans {O : List (Option Addr)} {H H1 H2 : Hp} (a : Ch O H H1) (b : Ch O H1 H2) : Ch O H H2 := fun x o n h => b x o n (a x o n h)
theorem Ch.data {O : List (Option Addr)} {H H' : Hp} (c : Ch O H H') : ∀ a o, hd O H a = some o → hd O H' a = some o := fun a o h => by
  obtain ⟨n, e⟩ := hd_some h
  exact hd_of n (c a o n e)
structure Wd (K : PySem.W.Frag) (O : List (Option Addr)) (cs : Cs) (H : Hp) : Prop where
  len : cs.length = O.length
  inj : ∀ (i j : Nat) (a : Addr), O[i]? = some (some a) → O[j]? = some (some a) → i = j
  cell : ∀ (i : Nat) (a : Addr), O[i]? = some (some a) → ∃ c vs, cs[i]? = some (some c) ∧ H a = some (.lst vs) ∧ RpAll K (hd O H) vs c
  ded : ∀ (i : Nat), O[i]? = some none → cs[i]? = some none
theorem Wd.of {K : PySem.W.Frag} {O : List (Option Addr)} {cs : Cs} {H : Hp} (w : Wd K O cs H) {i : Nat} {c : List D} (h : cs[i]? = some (some c)) : ∃ a vs, O[i]? = some (some a) ∧ H a = some (.lst vs) ∧ RpAll K (hd O H) vs c := by
  obtain ⟨hi, e⟩ := List.getElem?_eq_some_iff.mp h
  have hi' : i < O.length := by rw [← w.len]; exact hi
  cases q : O[i] with
  | none =>
    have := w.ded i (by rw [List.getElem?_eq_getElem hi', q])
    rw [h] at this; cases this
  | some a =>
    have q' : O[i]? = some (some a) := by rw [List.getElem?_eq_getElem hi', q]
    obtain ⟨c', vs, h1, h2, h3⟩ := w.cell i a q'
    rw [h] at h1; cases h1
    exact ⟨a, vs, q', h2, h3⟩
theorem Wd.some_live {K : PySem.W.Frag} {O : List (Option Addr)} {cs : Cs} {H : Hp} (w : Wd K O cs H) {a : Addr} (h : a ∈ live O) : ∃ o, H a = some o := by
  obtain ⟨i, e⟩ := mem_live.mp h
  obtain ⟨c, vs, _, h2, _⟩ := w.cell i a e
  exact ⟨_, h2⟩
theorem Wd.fresh {K : PySem.W.Frag} {O : List (Option Addr)} {cs : Cs} {H : Hp} (w : Wd K O cs H) {a : Addr} (h : H a = none) : a ∉ live O := fun z => by
  obtain ⟨o, e⟩ := w.some_live z
  rw [h] at e; cases e
/-- what is new behind is new ahead -/
theorem Wd.new_of {K : PySem.W.Frag} {O : List (Option Addr)} {cs cs' : Cs} {H H' : Hp} (w : Wd K O cs H) (w' : Wd K O cs' H') (c : Ch O H H') {p : Addr} (h : H' p = none) : H p = none := by
  cases q : H p with
  | none => rfl
  | some o =>
    have := c p o (w'.fresh h) q
    rw [h] at this; cases this

/-- the classes of the module, by name -/
def CLs (K : PySem.W.Frag) : List (Str × Addr) := K.filterMap fun p => match p.2.data with
  | .cls cd => some (cd.name, p.1)
  | _ => none
/-- the name nm, or that of the class above all of the package's -/
def subN (nm nm' : Str) : Bool := nm == nm' || nm' == ("SameError" : Str)
/-- what is known of the class at C, nm its name -/
structure Card (K : PySem.W.Frag) (nm : Str) (C : Addr) : Prop where
  ke : KeC K C
  nov : PySem.W.findIn K (.ref C) "value" = some none
  sub : ∀ q ∈ CLs K, PySem.W.kitOne K (.ref C) (.ref q.2) = some (subN nm q.1)
  exm : ∀ q ∈ CLs K, PySem.W.subIn K (.ref q.2) (.type "BaseException") = some true → PySem.W.exmOne K (.ref C) (.ref q.2) = some (subN nm q.1)
/-- a caught exception: its class's name, its value -/
def ExAt (K : PySem.W.Frag) (H : Hp) (nm : Str) (d : D) (v : V) : Prop := ∃ (a C dd : Addr) (y : V), v = .ref a ∧ Card K nm C ∧ H a = some (exv a (.ref C) (some dd)) ∧ H dd = some (.xd [(("value" : Str), y)]) ∧ Rp K H y d
theorem ExAt.mono {K : PySem.W.Frag} {H H' : Hp} (h : ∀ a o, H a = some o → H' a = some o) {nm : Str} {d : D} {v : V} (q : ExAt K H nm d v) : ExAt K H' nm d v :=
  let ⟨a, C, dd, y, e, k, h1, h2, r⟩ := q
  ⟨a, C, dd, y, e, k, h _ _ h1, h _ _ h2, r.mono h⟩
/-- a value as an Rv, behind H (from H on) -/
def RvR (K : PySem.W.Frag) (O : List (Option Addr)) (H : Hp) (cs' : Cs) (r : Rv) (v : V) (H' : Hp) : Prop :=
  match r with
  | .dat d => Rp K (hd O H') v d
  | .own k => ∃ a, v = .ref a ∧ O[k]? = some (some a)
  | .fr c => ∃ p, v = .ref p ∧ H p = none ∧ Wd K (O ++ [some p]) (cs' ++ [some c]) H'
  | .exn nm d => ExAt K (hd O H') nm d v
/-- as it stays: no fresh one -/
def ArR (K : PySem.W.Frag) (O : List (Option Addr)) (r : Rv) (v : V) (H : Hp) : Prop :=
  match r with
  | .dat d => Rp K (hd O H) v d
  | .own k => ∃ a, v = .ref a ∧ O[k]? = some (some a)
  | .fr _ => False
  | .exn nm d => ExAt K (hd O H) nm d v
def deg : Rv → Rv
  | .fr c => .dat (.list c)
  | r => r
theorem hd_app {O : List (Option Addr)} {p : Addr} {H : Hp} : ∀ a o, hd (O ++ [some p]) H a = some o → hd O H a = some o := fun a o h => by
  obtain ⟨n, e⟩ := hd_some h
  refine hd_of (fun z => n ?_) e
  obtain ⟨i, q⟩ := mem_live.mp z
  refine mem_live.mpr ⟨i, ?_⟩
  rw [List.getElem?_append_left (List.getElem?_eq_some_iff.mp q).1]
  exact q
theorem Wd.pop {K : PySem.W.Frag} {O : List (Option Addr)} {p : Addr} {cs : Cs} {c : List D} {H : Hp} (w : Wd K (O ++ [some p]) (cs ++ [some c]) H) : Wd K O cs H ∧ Rp K (hd O H) (.ref p) (.list c) ∧ p ∉ live O := by
  have hl : cs.length = O.length := by have := w.len; simpa using this
  have up : ∀ {i : Nat} {x : Option Addr}, O[i]? = some x → (O ++ [some p])[i]? = some x := fun {i x} q => by
    rw [List.getElem?_append_left (List.getElem?_eq_some_iff.mp q).1]; exact q
  have last : (O ++ [some p])[O.length]? = some (some p) := by simp
  have np : p ∉ live O := fun z => by
    obtain ⟨i, q⟩ := mem_live.mp z
    have := w.inj i O.length p (up q) last
    have h2 := (List.getElem?_eq_some_iff.mp q).1
    omega
  refine ⟨⟨hl, fun i j a h1 h2 => w.inj i j a (up h1) (up h2), fun i a h => ?_, fun i h => ?_⟩, ?_, np⟩
  · obtain ⟨c', vs, h1, h2, h3⟩ := w.cell i a (up h)
    rw [List.getElem?_append_left (by rw [hl]; exact (List.getElem?_eq_some_iff.mp h).1)] at h1
    exact ⟨c', vs, h1, h2, h3.mono hd_app⟩
  · have h1 := w.ded i (up h)
    rw [List.getElem?_append_left (by rw [hl]; exact (List.getElem?_eq_some_iff.mp h).1)] at h1
    exact h1
  · obtain ⟨c', vs, h1, h2, h3⟩ := w.cell O.length p last
    rw [← hl] at h1
    simp at h1
    subst h1
    exact .lst (.inl (.inl (hd_of np h2))) (h3.mono hd_app)
theorem RvR.deg {K : PySem.W.Frag} {O : List (Option Addr)} {H H' : Hp} {cs' : Cs} {r : Rv} {v : V} (h : RvR K O H cs' r v H') : ArR K O (deg r) v H' := by
  cases r with
  | dat d => exact h
  | own k => exact h
  | fr c =>
    obtain ⟨p, rfl, _, w⟩ := h
    exact w.pop.2.1
  | exn nm d => exact h
theorem ArR.ch {K : PySem.W.Frag} {O : List (Option Addr)} {H H' : Hp} {r : Rv} {v : V} (c : Ch O H H') (h : ArR K O r v H) : ArR K O r v H' := by
  cases r with
  | dat d => exact Rp.mono c.data h
  | own k => exact h
  | fr c => exact h
  | exn nm d => exact ExAt.mono c.data h
/-- an owned cell's content, or data -/
def rd (r : Rv) (cs : Cs) : Option D :=
  match r with
  | .dat d => some d
  | .own k => match cs[k]? with
    | some (some c) => some (.list c)
    | _ => none
  | .fr c => some (.list c)
  | .exn _ _ => none
/-- as it is read: the list itself may be an owned cell, what it holds is data -/
def Sh (K : PySem.W.Frag) (O : List (Option Addr)) (H : Hp) (v : V) (d : D) : Prop := Rp K (hd O H) v d ∨ ∃ a vs ds, v = .ref a ∧ d = .list ds ∧ H a = some (.lst vs) ∧ RpAll K (hd O H) vs ds
theorem ArR.sh {K : PySem.W.Frag} {O : List (Option Addr)} {H : Hp} {cs : Cs} {r : Rv} {v : V} {d : D} (w : Wd K O cs H) (h : ArR K O r v H) (e : rd r cs = some d) : Sh K O H v d := by
  cases r with
  | dat d' =>
    cases e
    exact .inl h
  | own k =>
    obtain ⟨a, rfl, q⟩ := h
    obtain ⟨c, vs, h1, h2, h3⟩ := w.cell k a q
    unfold rd at e
    simp only [h1] at e
    cases e
    exact .inr ⟨a, vs, c, rfl, rfl, h2, h3⟩
  | fr c => exact h.elim
  | exn nm d => cases e
theorem hd_le {O : List (Option Addr)} {H : Hp} : ∀ a o, hd O H a = some o → H a = some o := fun a o h => (hd_some h).2
theorem Sh.rp {K : PySem.W.Frag} {O : List (Option Addr)} {H : Hp} {v : V} {d : D} (h : Sh K O H v d) : Rp K H v d := by
  rcases h with h | ⟨a, vs, ds, rfl, rfl, h1, h2⟩
  · exact h.mono hd_le
  · exact .lst (.inl (.inl h1)) (h2.mono hd_le)
/-- items of what is read are data -/
theorem Sh.list {K : PySem.W.Frag} {O : List (Option Addr)} {H : Hp} {v : V} {ds : List D} (h : Sh K O H v (.list ds)) : ∃ a vs, v = .ref a ∧ LstAt K H a vs ∧ RpAll K (hd O H) vs ds := by
  rcases h with h | ⟨a, vs, ds', rfl, e, h1, h2⟩
  · cases h with
    | lst q r => exact ⟨_, _, rfl, q.mono hd_le, r⟩
  · cases e
    exact ⟨a, vs, rfl, .inl (.inl h1), h2⟩
theorem Sh.tuple {K : PySem.W.Frag} {O : List (Option Addr)} {H : Hp} {v : V} {ds : List D} (h : Sh K O H v (.tuple ds)) : ∃ a vs, v = .ref a ∧ SqT K H a vs ∧ RpAll K (hd O H) vs ds := by
  rcases h with h | ⟨a, vs, ds', rfl, e, h1, h2⟩
  · cases h with
    | tup q r => exact ⟨_, _, rfl, sqT_mono hd_le q, r⟩
  · cases e
theorem Sh.int {K : PySem.W.Frag} {O : List (Option Addr)} {H : Hp} {v : V} {i : Int} (h : Sh K O H v (.int i)) : v = .int i := by
  rcases h with h | ⟨a, vs, ds', rfl, e, h1, h2⟩
  · cases h; rfl
  · cases e
theorem Sh.bool {K : PySem.W.Frag} {O : List (Option Addr)} {H : Hp} {v : V} {i : Bool} (h : Sh K O H v (.bool i)) : v = .bl i := by
  rcases h with h | ⟨a, vs, ds', rfl, e, h1, h2⟩
  · cases h; rfl
  · cases e
theorem Sh.none {K : PySem.W.Frag} {O : List (Option Addr)} {H : Hp} {v : V} (h : Sh K O H v .none) : v = .non := by
  rcases h with h | ⟨a, vs, ds', rfl, e, h1, h2⟩
  · cases h; rfl
  · cases e
theorem Sh.str {K : PySem.W.Frag} {O : List (Option Addr)} {H : Hp} {v : V} {x : Str} (h : Sh K O H v (.str x)) : v = .str x ∧ x.length ≤ sizeLine := by
  rcases h with h | ⟨a, vs, ds', rfl, e, h1, h2⟩
  · cases h with
    | str _ q => exact ⟨rfl, q⟩
  · cases e
theorem Sh.dict {K : PySem.W.Frag} {O : List (Option Addr)} {H : Hp} {v : V} {ds : List (D × D)} (h : Sh K O H v (.dict ds)) (hf : isFn ds = false) : ∃ a kvs, v = .ref a ∧ Rd H a (.dK kvs) ∧ kvs.map (fun p => kD p.1) = ds.map (·.1) ∧ RpAll K (hd O H) (kvs.map (·.2)) (ds.map (·.2)) := by
  rcases h with h | ⟨a, vs, ds', rfl, e, h1, h2⟩
  · cases h with
    | dct q e r =>
      exact ⟨_, _, rfl, .inr ⟨_, hd_le _ _ q⟩, e, r⟩
    | fn q => cases hf
  · cases e
/-- the environment -/
structure EnvOk (K : PySem.W.Frag) (O : List (Option Addr)) (H : Hp) (ρ : Rho) (σ : L2.St) : Prop where
  len : ρ.length = σ.length
  slot : ∀ (i : Nat) (r : Rv), ρ[i]? = some (some r) → ∃ v, σ[i]? = some (some v) ∧ ArR K O r v H
theorem EnvOk.ch {K : PySem.W.Frag} {O : List (Option Addr)} {H H' : Hp} {ρ : Rho} {σ : L2.St} (e : EnvOk K O H ρ σ) (c : Ch O H H') : EnvOk K O H' ρ σ :=
  ⟨e.len, fun i r h => let ⟨v, h1, h2⟩ := e.slot i r h; ⟨v, h1, h2.ch c⟩⟩
theorem EnvOk.set {K : PySem.W.Frag} {O : List (Option Addr)} {H : Hp} {ρ : Rho} {σ : L2.St} (e : EnvOk K O H ρ σ) (i : Nat) {r : Rv} {v : V} (h : ArR K O r v H) : EnvOk K O H (ρ.set i (some r)) (σ.set i (some v)) := by
  refine ⟨by simp [e.len], fun j r' hj => ?_⟩
  by_cases q : i = j
  · subst q
    have hi : i < ρ.length := by
      have := (List.getElem?_eq_some_iff.mp hj).1
      simpa using this
    rw [List.getElem?_set_self hi] at hj
    cases hj
    exact ⟨v, by rw [List.getElem?_set_self (by rw [← e.len]; exact hi)], h⟩
  · rw [List.getElem?_set_ne q] at hj
    obtain ⟨w, h1, h2⟩ := e.slot j r' hj
    exact ⟨w, by rw [List.getElem?_set_ne q]; exact h1, h2⟩

/-! ### new objects -/
section
variable {K : PySem.W.Frag} {O : List (Option Addr)} {cs : Cs} {H : Hp}
theorem ch_new {p : Addr} {o : HO} (hp : H p = none) : Ch O H (upd H p o) := fun a u _ h => by
  rw [upd_ne (ne_of_none h hp)]; exact h
theorem Wd.new (w : Wd K O cs H) {p : Addr} {o : HO} (hp : H p = none) : Wd K O cs (upd H p o) := by
  refine ⟨w.len, w.inj, fun i a h => ?_, w.ded⟩
  obtain ⟨c, vs, h1, h2, h3⟩ := w.cell i a h
  exact ⟨c, vs, h1, by rw [upd_ne (ne_of_none h2 hp)]; exact h2, h3.mono (ch_new hp).data⟩
theorem Wd.newList (w : Wd K O cs H) {p : Addr} {vs : List V} {c : List D} (hp : H p = none) (r : RpAll K (hd O H) vs c) : Wd K (O ++ [some p]) (cs ++ [some c]) (upd H p (.lst vs)) := by
  have np := w.fresh hp
  have sub : ∀ a o, hd O H a = some o → hd (O ++ [some p]) (upd H p (.lst vs)) a = some o := fun a o h => by
    obtain ⟨n, e⟩ := hd_some h
    have ne : a ≠ p := ne_of_none e hp
    refine hd_of (fun z => ?_) (by rw [upd_ne ne]; exact e)
    obtain ⟨i, q⟩ := mem_live.mp z
    by_cases hi : i < O.length
    · rw [List.getElem?_append_left hi] at q
      exact n (mem_live.mpr ⟨i, q⟩)
    · rw [List.getElem?_append_right (by omega)] at q
      have : i - O.length = 0 := by
        have := (List.getElem?_eq_some_iff.mp q).1
        simp at this; omega
      rw [this] at q
      simp at q
      exact ne q.symm
  have split : ∀ {i : Nat} {x : Option Addr}, (O ++ [some p])[i]? = some x → (i < O.length ∧ O[i]? = some x) ∨ (i = O.length ∧ x = some p) := fun {i x} q => by
    by_cases hi : i < O.length
    · rw [List.getElem?_append_left hi] at q
      exact .inl ⟨hi, q⟩
    · rw [List.getElem?_append_right (by omega)] at q
      have h0 : i - O.length = 0 := by
        have := (List.getElem?_eq_some_iff.mp q).1
        simp at this; omega
      rw [h0] at q
      simp at q
      exact .inr ⟨by omega, q.symm⟩
  refine ⟨by simp [w.len], fun i j a h1 h2 => ?_, fun i a h => ?_, fun i h => ?_⟩
  · rcases split h1 with ⟨l1, q1⟩ | ⟨e1, q1⟩ <;> rcases split h2 with ⟨l2, q2⟩ | ⟨e2, q2⟩
    · exact w.inj i j a q1 q2
    · cases q2; exact absurd (mem_live.mpr ⟨i, q1⟩) np
    · cases q1; exact absurd (mem_live.mpr ⟨j, q2⟩) np
    · omega
  · rcases split h with ⟨l1, q1⟩ | ⟨e1, q1⟩
    · obtain ⟨c', vs', h1, h2, h3⟩ := w.cell i a q1
      refine ⟨c', vs', ?_, by rw [upd_ne (ne_of_none h2 hp)]; exact h2, h3.mono sub⟩
      rw [List.getElem?_append_left (by rw [w.len]; exact l1)]; exact h1
    · cases q1
      refine ⟨c, vs, ?_, upd_same, r.mono sub⟩
      rw [e1, ← w.len]; simp
  · rcases split h with ⟨l1, q1⟩ | ⟨e1, q1⟩
    · rw [List.getElem?_append_left (by rw [w.len]; exact l1)]; exact w.ded i q1
    · cases q1
end
/-- what an expression wants behind -/
def PostX (K : PySem.W.Frag) (O : List (Option Addr)) (H : Hp) (r : Rv) (cs' : Cs) (Q : VK) : Prop := ∀ v H', Ch O H H' → Wd K O cs' H' → RvR K O H cs' r v H' → Q v H'
section
variable {K : PySem.W.Frag} {O : List (Option Addr)} {cs : Cs} {H : Hp} {Q : VK}
theorem post_list {vs : List V} {c : List D} (w : Wd K O cs H) (r : RpAll K (hd O H) vs c) (h : PostX K O H (.fr c) cs Q) : ∀ p, H p = none → Q (.ref p) (upd H p (.lst vs)) := fun p hp =>
  h _ _ (ch_new hp) (w.new hp) ⟨p, rfl, hp, w.newList hp r⟩
theorem post_tup {vs : List V} {c : List D} (w : Wd K O cs H) (r : RpAll K (hd O H) vs c) (h : PostX K O H (.dat (.tuple c)) cs Q) : ∀ p, H p = none → Q (.ref p) (upd H p (.tup vs)) := fun p hp =>
  h _ _ (ch_new hp) (w.new hp) (.tup (.inl (.inl (hd_of (w.fresh hp) upd_same))) (r.mono (ch_new hp).data))
theorem post_val {v : V} {d : D} (w : Wd K O cs H) (r : Rp K (hd O H) v d) (h : PostX K O H (.dat d) cs Q) : Q v H := h _ _ .refl w r
theorem post_int {i : Int} (w : Wd K O cs H) (h : PostX K O H (.dat (.int i)) cs Q) : Q (.int i) H := post_val w (.int i) h
theorem post_bool {b : Bool} (w : Wd K O cs H) (h : PostX K O H (.dat (.bool b)) cs Q) : Q (.bl b) H := post_val w (.bl b) h
theorem post_str {x : Str} (w : Wd K O cs H) (hz : x.length ≤ sizeLine) (h : PostX K O H (.dat (.str x)) cs Q) : Q (.str x) H := post_val w (.str x hz) h
end
end DL
namespace DL
open PySem PySem.Spec PyProof.Rows L2

/-! ### data as the library reads it -/
section
variable {X : Cx} {pins : List (Addr × Obj)} {σ : L2.St} {H : Hp} {s : Shared}
theorem keys_reads {h : Heap} : ∀ {kvs : List (Key × V)} {ds : List D} {us : List Value}, kvs.map (fun p => kD p.1) = ds → (∀ (i : Nat) (k : Key) (v : V), kvs[i]? = some (k, v) → ∃ u, us[i]? = some u ∧ keyIs k u = true) → us.length = kvs.length → ∃ as, ReadsAll h us ds as := by
  intro kvs
  induction kvs with
  | nil =>
    intro ds us e _ hl
    subst e
    cases us with
    | nil => exact ⟨_, .nil⟩
    | cons _ _ => cases hl
  | cons kv r ih =>
    intro ds us e hk hl
    subst e
    cases us with
    | nil => cases hl
    | cons u us =>
      obtain ⟨as, ha⟩ := ih (us := us) rfl (fun i k v h => hk (i + 1) k v (by simpa using h)) (by simpa using hl)
      obtain ⟨u', e1, e2⟩ := hk 0 kv.1 kv.2 rfl
      have e1' : u = u' := by simpa using e1
      subst e1'
      rcases keyIs_shape e2 with ⟨i, t, ek, rfl⟩ | ⟨x, t, ek, rfl⟩
      · refine ⟨_, .cons (d := kD kv.1) (as := []) (by rw [ek]; exact .int i t) ha⟩
      · refine ⟨_, .cons (d := kD kv.1) (as := []) (by rw [ek]; exact .str x t) ha⟩
mutual
/-- no def lies within -/
def noF : D → Bool
  | .list ds => noFs ds
  | .tuple ds => noFs ds
  | .dict kvs => !isFn kvs && noFk kvs
  | .none => true
  | .bool _ => true
  | .int _ => true
  | .str _ => true
def noFs : List D → Bool
  | [] => true
  | d :: ds => noF d && noFs ds
def noFk : List (D × D) → Bool
  | [] => true
  | (_, v) :: r => noF v && noFk r
end
mutual
theorem noF_plain : ∀ {d : D}, d.plain = true → noF d = true
  | .none, _ => by unfold noF; rfl
  | .bool _, _ => by unfold noF; rfl
  | .int _, _ => by unfold noF; rfl
  | .str _, _ => by unfold noF; rfl
  | .list ds, h => by unfold noF; exact noFs_plain h
  | .tuple ds, h => by unfold noF; exact noFs_plain h
  | .dict _, h => by cases h
theorem noFs_plain : ∀ {ds : List D}, PyData.plainAll ds = true → noFs ds = true
  | [], _ => by unfold noFs; rfl
  | d :: ds, h => by
    obtain ⟨h1, h2⟩ := Bool.and_eq_true_iff.mp (show (d.plain && PyData.plainAll ds) = true from h)
    unfold noFs
    rw [noF_plain h1, noFs_plain h2]
    rfl
end
mutual
theorem noF_nodict : ∀ {d : D}, d.hasDict = false → noF d = true
  | .none, _ => by unfold noF; rfl
  | .bool _, _ => by unfold noF; rfl
  | .int _, _ => by unfold noF; rfl
  | .str _, _ => by unfold noF; rfl
  | .list ds, h => by unfold noF; exact noFs_nodict h
  | .tuple ds, h => by unfold noF; exact noFs_nodict h
  | .dict _, h => by cases h
theorem noFs_nodict : ∀ {ds : List D}, PyData.hasDictAll ds = false → noFs ds = true
  | [], _ => by unfold noFs; rfl
  | d :: ds, h => by
    obtain ⟨h1, h2⟩ := Bool.or_eq_false_iff.mp (show (d.hasDict || PyData.hasDictAll ds) = false from h)
    unfold noFs
    rw [noF_nodict h1, noFs_nodict h2]
    rfl
end
theorem noFk_snd : ∀ {kvs : List (D × D)}, noFk kvs = true → noFs (kvs.map (·.2)) = true
  | [], _ => by unfold noFs; rfl
  | (k, v) :: r, h => by
    unfold noFk at h
    obtain ⟨h1, h2⟩ := Bool.and_eq_true_iff.mp h
    show noFs (v :: r.map (·.2)) = true
    unfold noFs
    rw [h1, noFk_snd h2]
    rfl
mutual
theorem Rp.reads (I : Inv X pins σ H s) : ∀ {v : V} {d : D}, Rp X.K H v d → noF d = true → ∀ u : Value, RelV v u → ∃ as, Reads s.heap u d as
  | _, _, .non, _, u, r => by cases r; exact ⟨_, Reads.none⟩
  | _, _, .bl b, _, u, r => by cases r; exact ⟨_, Reads.bool b⟩
  | _, _, .int i, _, u, r => by obtain ⟨t, rfl⟩ := r; exact ⟨_, Reads.int i t⟩
  | _, _, .str x _, _, u, r => by obtain ⟨t, rfl⟩ := r; exact ⟨_, Reads.str x t⟩
  | _, _, .lst q a, nf, u, r => by
    cases r
    unfold noF at nf
    obtain ⟨its, rv, ⟨o, n, ho, hc, _, hd⟩, _⟩ := I.list q.sq
    obtain ⟨as, hr⟩ := RpAll.reads I a nf its rv
    exact ⟨_, Reads.list ho hc hd hr⟩
  | _, _, .tup q a, nf, u, r => by
    cases r
    unfold noF at nf
    obtain ⟨its, rv, ⟨o, ho, hc, n, hd⟩, _⟩ := I.tuple q
    obtain ⟨as, hr⟩ := RpAll.reads I a nf its rv
    exact ⟨_, Reads.tuple ho hc hd hr⟩
  | _, _, .fn q, nf, _, _ => by unfold noF at nf; cases nf
  | _, _, .dct (a := a) (kvs := kvs) (ds := ds) q e b, nf, u, r => by
    cases r
    unfold noF at nf
    have nf := noFk_snd (Bool.and_eq_true_iff.mp nf).2
    obtain ⟨hz, hS, vs, rk, m⟩ := dk_rd I.hok (.inr ⟨_, q⟩)
    obtain ⟨es, ep, ⟨o, ho, hx, hd⟩, hl, hk⟩ := Heap.DictOf.raw m
    have hlen : kvs.length = vs.length := Paired.length rk
    have rvals : Vals (kvs.map (·.2)) (es.toList.map (·.val)) := by
      have e1 : es.toList.map (·.val) = vs.map (·.2) := by
        apply List.ext_getElem?
        intro i
        rw [List.getElem?_map, List.getElem?_map]
        by_cases hi : i < es.size
        · have hi2 : i < vs.length := by omega
          rw [List.getElem?_eq_getElem (by simpa using hi), List.getElem?_eq_getElem hi2]
          have := (hk i hi vs[i].1 vs[i].2 (List.getElem?_eq_getElem hi2)).2
          simp [this]
        · rw [List.getElem?_eq_none (by simpa using hi), List.getElem?_eq_none (by omega)]; rfl
      rw [e1]
      clear hk e1 hl hd ho hx m hz hS
      clear b e q
      clear hlen
      induction rk with
      | nil => exact .nil
      | cons p _ ih => exact .cons p.2 ih
    obtain ⟨as, h1⟩ := keys_reads (h := s.heap) (kvs := kvs) (us := es.toList.map (·.key)) e (fun i k v h => by
      have hi : i < kvs.length := (List.getElem?_eq_some_iff.mp h).1
      have hi2 : i < es.size := by omega
      have hi3 : i < vs.length := by omega
      have h3 : kvs[i]? = some kvs[i] := List.getElem?_eq_getElem hi
      have key : vs[i].1 = k := by
        have : ∀ {l : List (Key × V)} {m : List (Key × Value)}, KV l m → ∀ (j : Nat) p q, l[j]? = some p → m[j]? = some q → p.1 = q.1 := by
          intro l m r
          induction r with
          | nil => intro j p q h; simp at h
          | cons a _ ih =>
            intro j p q hp hq
            cases j with
            | zero => simp at hp hq; rw [← hp, ← hq]; exact a.1
            | succ j => exact ih j p q (by simpa using hp) (by simpa using hq)
        exact (this rk i _ _ h (List.getElem?_eq_getElem hi3)).symm
      have := (hk i hi2 vs[i].1 vs[i].2 (List.getElem?_eq_getElem hi3)).1
      refine ⟨es[i].key, ?_, ?_⟩
      · rw [List.getElem?_map, List.getElem?_eq_getElem (by simpa using hi2)]; simp
      · rw [← key]; exact this) (by simp; omega)
    obtain ⟨bs, h2⟩ := RpAll.reads I b nf _ rvals
    exact ⟨_, Reads.dict ho hx.1 hd h1 h2⟩
theorem RpAll.reads (I : Inv X pins σ H s) : ∀ {vs : List V} {ds : List D}, RpAll X.K H vs ds → noFs ds = true → ∀ us : List Value, Vals vs us → ∃ as, ReadsAll s.heap us ds as
  | _, _, .nil, _, us, r => by cases r; exact ⟨_, ReadsAll.nil⟩
  | _, _, .cons a b, nf, us, r => by
    unfold noFs at nf
    obtain ⟨n1, n2⟩ := Bool.and_eq_true_iff.mp nf
    cases r with
    | cons r1 r2 =>
      obtain ⟨as, q1⟩ := Rp.reads I a n1 _ r1
      obtain ⟨bs, q2⟩ := RpAll.reads I b n2 _ r2
      exact ⟨_, ReadsAll.cons q1 q2⟩
end
end

/-! ### expressions -/
abbrev ME := Rho → Cs → Option (Rv × Cs)
abbrev MT := Rho → Cs → Option (Bool × Cs)
abbrev MA := Rho → Cs → Option (List Rv × Cs)
def tX (K : PySem.W.Frag) (f : ME) : TE := fun σ H Q => ∃ ρ O cs r cs', f ρ cs = some (r, cs') ∧ EnvOk K O H ρ σ ∧ Wd K O cs H ∧ PostX K O H r cs' Q
def XE (X : Cx) (f : ME) (e : Expr) : Prop := PE X e (tX X.K f)
theorem pe_weak {X : Cx} {e : Expr} {t t' : TE} (h : PE X e t) (w : ∀ σ H Q, t' σ H Q → t σ H Q) : PE X e t' := ⟨fun pins s σ H Q I q => h.run pins s σ H Q I (w _ _ _ q)⟩
theorem pt_weak {X : Cx} {e : Expr} {t t' : TT} (h : PT X e t) (w : ∀ σ H Q, t' σ H Q → t σ H Q) : PT X e t' := ⟨fun pins s σ H Q I q => h.run pins s σ H Q I (w _ _ _ q)⟩
theorem ps_weak {X : Cx} {e : Stmt} {t t' : TS} (h : PS X e t) (w : ∀ D σ H, t' D σ H → t D σ H) : PS X e t' := ⟨fun pins s σ H D I q => h.run pins s σ H D I (w _ _ _ q)⟩
def Pst (K : PySem.W.Frag) (O : List (Option Addr)) (H : Hp) (cs' : Cs) (Q : Hp → Prop) : Prop := ∀ H', Ch O H H' → Wd K O cs' H' → Q H'
def tXT (K : PySem.W.Frag) (f : MT) : TT := fun σ H Q => ∃ ρ O cs b cs', f ρ cs = some (b, cs') ∧ EnvOk K O H ρ σ ∧ Wd K O cs H ∧ Pst K O H cs' (Q b)
def XT (X : Cx) (f : MT) (e : Expr) : Prop := PT X e (tXT X.K f)
def ArRs (K : PySem.W.Frag) (O : List (Option Addr)) (H : Hp) : List Rv → List V → Prop
  | [], [] => True
  | r :: rs, v :: vs => ArR K O r v H ∧ ArRs K O H rs vs
  | _, _ => False
theorem ArRs.ch {K : PySem.W.Frag} {O : List (Option Addr)} {H H' : Hp} (c : Ch O H H') : ∀ {rs : List Rv} {vs : List V}, ArRs K O H rs vs → ArRs K O H' rs vs
  | [], [], _ => trivial
  | r :: rs, v :: vs, h => ⟨h.1.ch c, ArRs.ch c h.2⟩
  | [], _ :: _, h => h
  | _ :: _, [], h => h
theorem ArRs.length {K : PySem.W.Frag} {O : List (Option Addr)} {H : Hp} : ∀ {rs : List Rv} {vs : List V}, ArRs K O H rs vs → rs.length = vs.length
  | [], [], _ => rfl
  | r :: rs, v :: vs, h => by rw [List.length_cons, List.length_cons, ArRs.length h.2]
  | [], _ :: _, h => h.elim
  | _ :: _, [], h => h.elim
def tXA (K : PySem.W.Frag) (f : MA) : TA := fun σ H Q => ∃ ρ O cs rs cs', f ρ cs = some (rs, cs') ∧ EnvOk K O H ρ σ ∧ Wd K O cs H ∧ ∀ vs H', Ch O H H' → Wd K O cs' H' → ArRs K O H' rs vs → Q vs H'
def XA (X : Cx) (f : MA) (es : List Expr) : Prop := PA X es (tXA X.K f)

/-- from H on, by H1 -/
theorem PostX.step {K : PySem.W.Frag} {O : List (Option Addr)} {H H1 : Hp} {cs1 : Cs} {r : Rv} {cs' : Cs} {Q : VK} (h : PostX K O H r cs' Q) (c : Ch O H H1) (w1 : Wd K O cs1 H1) : PostX K O H1 r cs' Q := fun v H' c' w' rv =>
  h v H' (c.trans c') w' (by
    cases r with
    | dat d => exact rv
    | own k => exact rv
    | exn nm d => exact rv
    | fr l =>
      obtain ⟨p, e, hp, q⟩ := rv
      refine ⟨p, e, ?_, q⟩
      cases z : H p with
      | none => rfl
      | some o =>
        have := c p o (w1.fresh hp) z
        rw [hp] at this; cases this)
theorem Pst.step {K : PySem.W.Frag} {O : List (Option Addr)} {H H1 : Hp} {cs' : Cs} {Q : Hp → Prop} (h : Pst K O H cs' Q) (c : Ch O H H1) : Pst K O H1 cs' Q := fun H' c' w' => h H' (c.trans c') w'

section
variable {X : Cx}
/-! names, constants -/
def xVar (i : Nat) : ME := fun ρ cs => (ρ[i]?.join).map fun r => (r, cs)
theorem xe_var {i : Nat} {x : Str} {pos : Pos} (hN : X.N[i]? = some x) (hv : Vis X.env.scope x) (hd : (x == ("__debug__" : Str)) = false := by decide) (hcd : (x == ("__classdict__" : Str)) = false := by decide) : XE X (xVar i) (.Name x pos) := by
  refine pe_weak (pe_var hN hv hd hcd) fun σ H Q ⟨ρ, O, cs, r, cs', e, en, w, p⟩ => ?_
  unfold xVar at e
  cases q : ρ[i]? with
  | none => rw [q] at e; cases e
  | some o =>
    rw [q] at e
    cases o with
    | none => cases e
    | some r' =>
      obtain ⟨v, h1, h2⟩ := en.slot i r' q
      cases e
      refine ⟨v, h1, p v H .refl w ?_⟩
      cases r with
      | dat d => exact h2
      | own k => exact h2
      | fr c => exact h2.elim
      | exn nm d => exact h2
def xC (d : D) : ME := fun _ cs => some (.dat d, cs)
theorem xe_const {e : Expr} {v : V} {d : D} (h : PE X e (tC v)) (r : ∀ K H, Rp K H v d) : XE X (xC d) e := by
  refine pe_weak h fun σ H Q ⟨ρ, O, cs, r', cs', e, en, w, p⟩ => ?_
  cases e
  exact p v H .refl w (r _ _)
theorem xe_int {i j pos} : XE X (xC (.int i)) (.Constant (.int i) j pos) := xe_const pe_int fun _ _ => .int i
theorem xe_bl {i j pos} : XE X (xC (.bool i)) (.Constant (.bool i) j pos) := xe_const pe_bl fun _ _ => .bl i
theorem xe_non {j pos} : XE X (xC .none) (.Constant .none j pos) := xe_const pe_non fun _ _ => .non
theorem xe_str {i j pos} (h : i.length ≤ sizeLine := by decide +kernel) : XE X (xC (.str i)) (.Constant (.str i) j pos) := xe_const pe_str fun _ _ => .str i h
theorem xe_gint {x : Str} {i : Int} {t : Tok} {pos : Pos} (hg : Gl X x) (hm : X.mg x = some (.int i t)) (hd : (x == ("__debug__" : Str)) = false := by decide) : XE X (xC (.int i)) (.Name x pos) := xe_const (v := .int i) (pe_glob hg hm ⟨t, rfl⟩ hd) fun _ _ => .int i
theorem xe_gstr {x z : Str} {t : Tok} {pos : Pos} (hg : Gl X x) (hm : X.mg x = some (.str z t)) (hd : (x == ("__debug__" : Str)) = false := by decide) (h : z.length ≤ sizeLine := by decide +kernel) : XE X (xC (.str z)) (.Name x pos) := xe_const (v := .str z) (pe_glob hg hm ⟨t, rfl⟩ hd) fun _ _ => .str z h

/-! two-place operations -/
def OpS (K : PySem.W.Frag) (r : R2) (g : D → D → Option Rv) : Prop := ∀ (O : List (Option Addr)) (cs : Cs) (H : Hp) (x y : V) (d e : D) (z : Rv) (Q : VK), Wd K O cs H → Sh K O H x d → Sh K O H y e → g d e = some z → PostX K O H z cs Q → r x y H Q
def mB (g : D → D → Option Rv) (fa fb : ME) : ME := fun ρ cs => (fa ρ cs).bind fun p => (fb ρ p.2).bind fun q => (rd (deg p.1) q.2).bind fun d => (rd (deg q.1) q.2).bind fun e => (g d e).map fun z => (z, q.2)
theorem mB_some {g : D → D → Option Rv} {fa fb : ME} {ρ : Rho} {cs cs' : Cs} {z : Rv} (h : mB g fa fb ρ cs = some (z, cs')) :
    ∃ x cs1 y d e, fa ρ cs = some (x, cs1) ∧ fb ρ cs1 = some (y, cs') ∧ rd (deg x) cs' = some d ∧ rd (deg y) cs' = some e ∧ g d e = some z := by
  unfold mB at h
  obtain ⟨⟨x, cs1⟩, h1, h⟩ := Option.bind_eq_some_iff.mp h
  obtain ⟨⟨y, cs2⟩, h2, h⟩ := Option.bind_eq_some_iff.mp h
  obtain ⟨d, h3, h⟩ := Option.bind_eq_some_iff.mp h
  obtain ⟨e, h4, h⟩ := Option.bind_eq_some_iff.mp h
  obtain ⟨z', h5, h⟩ := Option.map_eq_some_iff.mp h
  cases h
  exact ⟨x, cs1, y, d, e, h1, h2, h3, h4, h5⟩
theorem tOp_of {K : PySem.W.Frag} {r : R2} {g : D → D → Option Rv} {fa fb : ME} (hs : OpS K r g) {σ : L2.St} {H : Hp} {Q : VK} (h : tX K (mB g fa fb) σ H Q) : tOp r (tX K fa) (tX K fb) σ H Q := by
  obtain ⟨ρ, O, cs, z, cs', e, en, w, p⟩ := h
  obtain ⟨x, cs1, y, d, e', h1, h2, h3, h4, h5⟩ := mB_some e
  refine ⟨ρ, O, cs, x, cs1, h1, en, w, fun v1 H1 c1 w1 r1 => ?_⟩
  refine ⟨ρ, O, cs1, y, cs', h2, en.ch c1, w1, fun v2 H2 c2 w2 r2 => ?_⟩
  exact hs O cs' H2 v1 v2 d e' z Q w2 ((r1.deg.ch c2).sh w2 h3) (r2.deg.sh w2 h4) h5 (p.step (c1.trans c2) w2)
theorem xe_bin {op : Operator} {r : R2} {g : D → D → Option Rv} {a b : Expr} {fa fb : ME} {pos : Pos} (ho : OpR X (binaryOp op) r) (hs : OpS X.K r g) (ha : XE X fa a) (hb : XE X fb b) : XE X (mB g fa fb) (.BinOp a op b pos) :=
  pe_weak (pe_op ho ha hb) fun σ H Q h => tOp_of hs h
theorem xe_cmp {op : CmpOp} {r : R2} {g : D → D → Option Rv} {a b : Expr} {fa fb : ME} {pos : Pos} (ho : OpR X (compareOp op) r) (hs : OpS X.K r g) (ha : XE X fa a) (hb : XE X fb b) (hm : behindInMarks op b = false := by first | exact nobehind _ (by decide) (by decide) | rfl) :
    XE X (mB g fa fb) (.Compare a [op] [b] pos) := pe_weak (pe_cmpR ho ha hb hm) fun σ H Q h => tOp_of hs h
theorem xe_ix {r : R2} {g : D → D → Option Rv} {a b : Expr} {fa fb : ME} {pos : Pos} (ho : IxR X r) (hs : OpS X.K r g) (ha : XE X fa a) (hb : XE X fb b) (hp : PlainIx b := by exact fun _ _ => rfl) : XE X (mB g fa fb) (.Subscript a b pos) :=
  pe_weak (pe_ix ho ha hb hp) fun σ H Q h => tOp_of hs h
def mU (g : D → Option Rv) (fa : ME) : ME := fun ρ cs => (fa ρ cs).bind fun p => (rd (deg p.1) p.2).bind fun d => (g d).map fun z => (z, p.2)
theorem mU_some {g : D → Option Rv} {fa : ME} {ρ : Rho} {cs cs' : Cs} {z : Rv} (h : mU g fa ρ cs = some (z, cs')) : ∃ x d, fa ρ cs = some (x, cs') ∧ rd (deg x) cs' = some d ∧ g d = some z := by
  unfold mU at h
  obtain ⟨⟨x, cs1⟩, h1, h⟩ := Option.bind_eq_some_iff.mp h
  obtain ⟨d, h3, h⟩ := Option.bind_eq_some_iff.mp h
  obtain ⟨z', h5, h⟩ := Option.map_eq_some_iff.mp h
  cases h
  exact ⟨x, d, h1, h3, h5⟩
def UnS (K : PySem.W.Frag) (r : V → Hp → VK → Prop) (g : D → Option Rv) : Prop := ∀ (O : List (Option Addr)) (cs : Cs) (H : Hp) (x : V) (d : D) (z : Rv) (Q : VK), Wd K O cs H → Sh K O H x d → g d = some z → PostX K O H z cs Q → r x H Q
theorem xe_un {op : UnaryOp} {r : V → Hp → VK → Prop} {g : D → Option Rv} {a : Expr} {fa : ME} {pos : Pos} (ho : UnR X (unaryOp op) r) (hs : UnS X.K r g) (ha : XE X fa a) : XE X (mU g fa) (.UnaryOp op a pos) :=
  pe_weak (pe_un ho ha) fun σ H Q ⟨ρ, O, cs, z, cs', e, en, w, p⟩ => by
    obtain ⟨x, d, h1, h2, h3⟩ := mU_some e
    exact ⟨ρ, O, cs, x, cs', h1, en, w, fun v1 H1 c1 w1 r1 => hs O cs' H1 v1 d z Q w1 (r1.deg.sh w1 h2) h3 (p.step c1 w1)⟩

/-! arguments -/
def aNil : MA := fun _ cs => some ([], cs)
def aCons (fa : ME) (fr : MA) : MA := fun ρ cs => (fa ρ cs).bind fun p => (fr ρ p.2).map fun q => (deg p.1 :: q.1, q.2)
theorem xa_nil : XA X aNil [] := ⟨fun pos pins s σ H Q I ⟨ρ, O, cs, rs, cs', e, en, w, p⟩ => by
  cases e
  exact pa_nil.run pos pins s σ H Q I (p [] H .refl w trivial)⟩
theorem pa_weak {es : List Expr} {t t' : TA} (h : PA X es t) (w : ∀ σ H Q, t' σ H Q → t σ H Q) : PA X es t' := ⟨fun pos pins s σ H Q I q => h.run pos pins s σ H Q I (w _ _ _ q)⟩
theorem aCons_some {fa : ME} {fr : MA} {ρ : Rho} {cs cs' : Cs} {rs : List Rv} (h : aCons fa fr ρ cs = some (rs, cs')) : ∃ x cs1 r, fa ρ cs = some (x, cs1) ∧ fr ρ cs1 = some (r, cs') ∧ rs = deg x :: r := by
  unfold aCons at h
  obtain ⟨⟨x, cs1⟩, h1, h⟩ := Option.bind_eq_some_iff.mp h
  obtain ⟨⟨r, cs2⟩, h2, h⟩ := Option.map_eq_some_iff.mp h
  cases h
  exact ⟨x, cs1, r, h1, h2, rfl⟩
theorem tCons_of {K : PySem.W.Frag} {fa : ME} {fr : MA} {σ : L2.St} {H : Hp} {Q : List V → Hp → Prop} (h : tXA K (aCons fa fr) σ H Q) : tCons (tX K fa) (tXA K fr) σ H Q := by
  obtain ⟨ρ, O, cs, rs, cs', e, en, w, p⟩ := h
  obtain ⟨x, cs1, r, h1, h2, rfl⟩ := aCons_some e
  refine ⟨ρ, O, cs, x, cs1, h1, en, w, fun v1 H1 c1 w1 r1 => ?_⟩
  exact ⟨ρ, O, cs1, r, cs', h2, en.ch c1, w1, fun vs H2 c2 w2 r2 => p _ _ (c1.trans c2) w2 ⟨r1.deg.ch c2, r2⟩⟩
theorem xa_cons {e : Expr} {es : List Expr} {fa : ME} {fr : MA} (ha : XE X fa e) (hr : XA X fr es) (hs : starEach (e :: es) X.env = (false, eval e X.env) :: starEach es X.env := by rfl) : XA X (aCons fa fr) (e :: es) :=
  pa_weak (pa_cons ha hr hs) fun σ H Q h => tCons_of h
/-- a consumer of arguments -/
def CaS (K : PySem.W.Frag) (r : List V → Hp → VK → Prop) (g : List D → Option Rv) : Prop := ∀ (O : List (Option Addr)) (cs : Cs) (H : Hp) (vs : List V) (ds : List D) (z : Rv) (Q : VK), Wd K O cs H → Paired (Sh K O H) vs ds → g ds = some z → PostX K O H z cs Q → r vs H Q
def rdAll : List Rv → Cs → Option (List D)
  | [], _ => some []
  | r :: rs, cs => (rd r cs).bind fun d => (rdAll rs cs).map fun ds => d :: ds
theorem ArRs.sh {K : PySem.W.Frag} {O : List (Option Addr)} {H : Hp} {cs : Cs} (w : Wd K O cs H) : ∀ {rs : List Rv} {vs : List V} {ds : List D}, ArRs K O H rs vs → rdAll rs cs = some ds → Paired (Sh K O H) vs ds
  | [], [], ds, _, e => by cases e; exact .nil
  | r :: rs, v :: vs, ds, h, e => by
    unfold rdAll at e
    obtain ⟨d, h1, e⟩ := Option.bind_eq_some_iff.mp e
    obtain ⟨ds', h2, e⟩ := Option.map_eq_some_iff.mp e
    subst e
    exact .cons (h.1.sh w h1) (ArRs.sh w h.2 h2)
  | [], _ :: _, _, h, _ => h.elim
  | _ :: _, [], _, h, _ => h.elim
def mCall (g : List D → Option Rv) (fa : MA) : ME := fun ρ cs => (fa ρ cs).bind fun p => (rdAll p.1 p.2).bind fun ds => (g ds).map fun z => (z, p.2)
theorem mCall_some {g : List D → Option Rv} {fa : MA} {ρ : Rho} {cs cs' : Cs} {z : Rv} (h : mCall g fa ρ cs = some (z, cs')) : ∃ rs ds, fa ρ cs = some (rs, cs') ∧ rdAll rs cs' = some ds ∧ g ds = some z := by
  unfold mCall at h
  obtain ⟨⟨x, cs1⟩, h1, h⟩ := Option.bind_eq_some_iff.mp h
  obtain ⟨d, h3, h⟩ := Option.bind_eq_some_iff.mp h
  obtain ⟨z', h5, h⟩ := Option.map_eq_some_iff.mp h
  cases h
  exact ⟨x, d, h1, h3, h5⟩
theorem tCB_of {K : PySem.W.Frag} {r : List V → Hp → VK → Prop} {g : List D → Option Rv} {fa : MA} (hs : CaS K r g) {σ : L2.St} {H : Hp} {Q : VK} (h : tX K (mCall g fa) σ H Q) : tCB r (tXA K fa) σ H Q := by
  obtain ⟨ρ, O, cs, z, cs', e, en, w, p⟩ := h
  obtain ⟨rs, ds, h1, h2, h3⟩ := mCall_some e
  exact ⟨ρ, O, cs, rs, cs', h1, en, w, fun vs H1 c1 w1 r1 => hs O cs' H1 vs ds z Q w1 (r1.sh w1 h2) h3 (p.step c1 w1)⟩
theorem xe_callB {id : String} {r : List V → Hp → VK → Prop} {g : List D → Option Rv} {x : Str} {e : Expr} {es : List Expr} {fa : MA} {p pos : Pos} (hc : CallR X (.builtin id) r) (hs : CaS X.K r g) (hg : Gl X x) (hm : X.mg x = none) (hv : bootBuiltins x = some (.builtin id)) (ha : XA X fa (e :: es))
    (hn : x ≠ "__name__" := by decide) (hdb : (x == ("__debug__" : Str)) = false := by decide)
    (he : starEach (e :: es) X.env = (false, eval e X.env) :: starEach es X.env := by rfl) (hpl : (backTo pos (starEach es X.env)).any (·.1) = false := by rfl) : XE X (mCall g fa) (.Call (.Name x p) (e :: es) [] pos) :=
  pe_weak (pe_callB hc hg hm hv ha hn hdb he hpl) fun σ H Q h => tCB_of hs h
theorem xe_callTy {T : String} {r : List V → Hp → VK → Prop} {g : List D → Option Rv} {x : Str} {e : Expr} {es : List Expr} {fa : MA} {p pos : Pos} (hc : CallR X (.type T) r) (hs : CaS X.K r g) (hg : Gl X x) (hm : X.mg x = none) (hv : bootBuiltins x = some (.type T)) (ha : XA X fa (e :: es))
    (hn : x ≠ "__name__" := by decide) (hdb : (x == ("__debug__" : Str)) = false := by decide)
    (he : starEach (e :: es) X.env = (false, eval e X.env) :: starEach es X.env := by rfl) (hpl : (backTo pos (starEach es X.env)).any (·.1) = false := by rfl) : XE X (mCall g fa) (.Call (.Name x p) (e :: es) [] pos) :=
  pe_weak (pe_callTy hc hg hm hv ha hn hdb he hpl) fun σ H Q h => tCB_of hs h
/-! displays: what is put in is data -/
def datAll : List Rv → Option (List D)
  | [] => some []
  | .dat d :: rs => (datAll rs).map fun ds => d :: ds
  | _ :: _ => none
theorem datAll_rp {K : PySem.W.Frag} {O : List (Option Addr)} {H : Hp} : ∀ {rs : List Rv} {vs : List V} {ds : List D}, ArRs K O H rs vs → datAll rs = some ds → RpAll K (hd O H) vs ds
  | [], [], ds, _, e => by cases e; exact .nil
  | .dat d :: rs, v :: vs, ds, h, e => by
    unfold datAll at e
    obtain ⟨ds', h2, e⟩ := Option.map_eq_some_iff.mp e
    subst e
    exact .cons h.1 (datAll_rp h.2 h2)
  | .own _ :: _, _ :: _, _, _, e => by cases e
  | .fr _ :: _, _ :: _, _, _, e => by cases e
  | .exn _ _ :: _, _ :: _, _, _, e => by cases e
  | [], _ :: _, _, h, _ => h.elim
  | _ :: _, [], _, h, _ => h.elim
def mDisp (g : List D → Rv) (fa : MA) : ME := fun ρ cs => (fa ρ cs).bind fun p => (datAll p.1).bind fun ds => if ds.length ≤ sizeLine then some (g ds, p.2) else none
theorem mDisp_some {g : List D → Rv} {fa : MA} {ρ : Rho} {cs cs' : Cs} {z : Rv} (h : mDisp g fa ρ cs = some (z, cs')) : ∃ rs ds, fa ρ cs = some (rs, cs') ∧ datAll rs = some ds ∧ ds.length ≤ sizeLine ∧ g ds = z := by
  unfold mDisp at h
  obtain ⟨⟨x, cs1⟩, h1, h⟩ := Option.bind_eq_some_iff.mp h
  obtain ⟨d, h3, h⟩ := Option.bind_eq_some_iff.mp h
  split at h
  · cases h
    exact ⟨x, d, h1, h3, by assumption, rfl⟩
  · cases h
def xLst (fa : MA) : ME := mDisp .fr fa
def xTup (fa : MA) : ME := mDisp (fun ds => .dat (.tuple ds)) fa
theorem xe_lst {es : List Expr} {fa : MA} {pos : Pos} (ha : XA X fa es) : XE X (xLst fa) (.List es pos) :=
  pe_weak (pe_lst ha) fun σ H Q ⟨ρ, O, cs, z, cs', e, en, w, p⟩ => by
    obtain ⟨rs, ds, h1, h2, h3, rfl⟩ := mDisp_some e
    refine ⟨ρ, O, cs, rs, cs', h1, en, w, fun vs H1 c1 w1 r1 => ?_⟩
    have ra := datAll_rp r1 h2
    exact ⟨by rw [ra.length]; exact h3, post_list w1 ra (p.step c1 w1)⟩
theorem xe_tup {es : List Expr} {fa : MA} {pos : Pos} {x1} (ha : XA X fa es) : XE X (xTup fa) (.Tuple es x1 pos) :=
  pe_weak (pe_tup ha) fun σ H Q ⟨ρ, O, cs, z, cs', e, en, w, p⟩ => by
    obtain ⟨rs, ds, h1, h2, h3, rfl⟩ := mDisp_some e
    refine ⟨ρ, O, cs, rs, cs', h1, en, w, fun vs H1 c1 w1 r1 => ?_⟩
    have ra := datAll_rp r1 h2
    exact ⟨by rw [ra.length]; exact h3, post_tup w1 ra (p.step c1 w1)⟩

/-! truth, tests -/
def tru : D → Option Bool
  | .none => some false
  | .bool b => some b
  | .int i => some (i != 0)
  | .str x => some ((x.length : Int) != 0)
  | .list ds => some (!ds.isEmpty)
  | .tuple ds => some (!ds.isEmpty)
  | .dict ds => some (!ds.isEmpty)
theorem isEmpty_rp {K : PySem.W.Frag} {H : Hp} {vs : List V} {ds : List D} (r : RpAll K H vs ds) : vs.isEmpty = ds.isEmpty := by cases r <;> rfl
theorem tru_v {K : PySem.W.Frag} {O : List (Option Addr)} {H : Hp} {v : V} {d : D} {k : Bool} (h : Sh K O H v d) (e : tru d = some k) (hd : ∀ ds, d ≠ .dict ds) : TruV K v H k := by
  cases d with
  | none => cases h.none; cases e; rfl
  | bool b => cases h.bool; cases e; rfl
  | int i => cases h.int; cases e; rfl
  | str x => obtain ⟨rfl, hz⟩ := h.str; cases e; exact ⟨hz, rfl⟩
  | list ds =>
    obtain ⟨a, vs, rfl, q, r⟩ := h.list
    cases e
    exact .inl ⟨vs, q.sq, by rw [isEmpty_rp r]⟩
  | tuple ds =>
    obtain ⟨a, vs, rfl, q, r⟩ := h.tuple
    cases e
    exact .inr (.inl ⟨vs, q, by rw [isEmpty_rp r]⟩)
  | dict ds => exact absurd rfl (hd ds)
/-- a value's truth as the machine tells it (no dict) -/
def truD : D → Option Bool
  | .dict _ => none
  | d => tru d
theorem truD_v {K : PySem.W.Frag} {O : List (Option Addr)} {H : Hp} {v : V} {d : D} {k : Bool} (h : Sh K O H v d) (e : truD d = some k) : TruV K v H k := by
  cases d with
  | dict ds => cases e
  | _ => exact tru_v h e (fun _ z => by cases z)
def mTru (fa : ME) : MT := fun ρ cs => (fa ρ cs).bind fun p => (rd (deg p.1) p.2).bind fun d => (truD d).map fun k => (k, p.2)
theorem mTru_some {fa : ME} {ρ : Rho} {cs cs' : Cs} {k : Bool} (h : mTru fa ρ cs = some (k, cs')) : ∃ x d, fa ρ cs = some (x, cs') ∧ rd (deg x) cs' = some d ∧ truD d = some k := by
  unfold mTru at h
  obtain ⟨⟨x, cs1⟩, h1, h⟩ := Option.bind_eq_some_iff.mp h
  obtain ⟨d, h3, h⟩ := Option.bind_eq_some_iff.mp h
  obtain ⟨z', h5, h⟩ := Option.map_eq_some_iff.mp h
  cases h
  exact ⟨x, d, h1, h3, h5⟩
theorem xt_of {a : Expr} {fa : ME} (ha : XE X fa a) (he : ∀ whole, isTrue a X.env whole = (do let v ← whole; standAt a.pos; holding [v] (truthy v)) := by intro _; rfl) : XT X (mTru fa) a :=
  pt_weak (pt_truth ha he) fun σ H Q ⟨ρ, O, cs, k, cs', e, en, w, p⟩ => by
    obtain ⟨x, d, h1, h2, h3⟩ := mTru_some e
    exact ⟨ρ, O, cs, x, cs', h1, en, w, fun v1 H1 c1 w1 r1 => ⟨k, truD_v (r1.deg.sh w1 h2) h3, p H1 c1 w1⟩⟩
end
end DL
namespace DL
open PySem PySem.Spec PyProof.Rows L2

/-! ### operations by data -/
abbrev di (i : Int) : Rv := .dat (.int i)
abbrev db (b : Bool) : Rv := .dat (.bool b)
/-- room in C's stack -/
structure Rm (X : Cx) : Prop where
  hd : X.A.handled = none
  un : X.A.units + 200 < cLine
  gd : X.A.guards = some []
  calm : X.calm = true
  nd : X.base.NoDigits
section
variable {X : Cx}
theorem lst_rd {pins : List (Addr × Obj)} {s : Shared} {σ : L2.St} {H : Hp} (I : Inv X pins σ H s) {a : Addr} {xs : List V} (q : LstAt X.K H a xs) : xs.length ≤ sizeLine ∧ ∃ (its : List Value) (n : Nat), Vals xs its ∧ s.heap.get? a = some { cls := .type "list", data := .seq its.toArray n } := by
  rcases q with q | ⟨its, n, h1, h2, h3⟩
  · exact q.ok I.hok
  · exact ⟨h2, its, n, h3, I.kIn a _ h1⟩
theorem OpS.or_l {K : PySem.W.Frag} {r r' : R2} {g : D → D → Option Rv} (h : OpS K r g) : OpS K (fun x y H Q => r x y H Q ∨ r' x y H Q) g := fun O cs H x y d e z Q w a b c p => .inl (h O cs H x y d e z Q w a b c p)
theorem ite_some {α : Type} {c : Prop} [Decidable c] {a b : α} (h : (if c then some a else none) = some b) : c ∧ a = b := by
  split at h
  · exact ⟨by assumption, Option.some.inj h⟩
  · cases h
/-- + -/
def dAdd : D → D → Option Rv
  | .int i, .int j => some (di (i + j))
  | .str x, .str y => if x.length + y.length ≤ sizeLine then some (.dat (.str (x ++ y))) else none
  | .list x, .list y => if x.length + y.length ≤ sizeLine then some (.fr (x ++ y)) else none
  | .tuple x, .tuple y => if x.length + y.length ≤ sizeLine then some (.dat (.tuple (x ++ y))) else none
  | _, _ => none
def rCatL (K : PySem.W.Frag) : R2 := fun x y H Q => ∃ l b xs zs, x = .ref l ∧ y = .ref b ∧ LstAt K H l xs ∧ LstAt K H b zs ∧ xs.length + zs.length ≤ sizeLine ∧ ∀ p, H p = none → Q (.ref p) (upd H p (.lst (xs ++ zs)))
theorem op_catL : OpR X (binaryOp .Add) (rCatL X.K) := by
  intro pins s σ H x y v u Q I rx ry h
  obtain ⟨l, b, xs, zs, rfl, rfl, h1, h2, hz, q⟩ := h
  cases rx
  cases ry
  obtain ⟨_, its, n, r, e⟩ := lst_rd I h1
  obtain ⟨_, its2, n2, r2, e2⟩ := lst_rd I h2
  have hl := r.length
  have hl2 := r2.length
  refine PySem.P.add_list e e2 ?_ (by rw [List.size_toArray, List.size_toArray]; omega)
  have ea : its.toArray ++ its2.toArray = (its ++ its2).toArray := by simp
  rw [ea]
  exact ⟨.ref _, _, I.lnew (t' := s.toks) (r.append r2) (by rw [List.length_append]; omega), rfl, q _ I.fresh⟩
def rAddD (K : PySem.W.Frag) : R2 := fun x y H Q => (rI0 (fun i j => .int (i + j)) x y H Q ∨ (∃ i j, x = .str i ∧ y = .str j ∧ i.length + j.length ≤ sizeLine ∧ Q (.str (i ++ j)) H)) ∨ rCatL K x y H Q ∨ rCatA K x y H Q
theorem op_addD : OpR X (binaryOp .Add) (rAddD X.K) := OpR.or (OpR.or op_add op_add_str) (OpR.or op_catL op_catA)
theorem str_len (x y : Str) : (x ++ y).length = x.length + y.length := by
  show (x.cps ++ y.cps).size = x.cps.size + y.cps.size
  exact Array.size_append
theorem addS {K : PySem.W.Frag} : OpS K (rAddD K) dAdd := by
  intro O cs H x y d e z Q w sx sy g p
  cases d with
  | int i =>
    cases e with
    | int j =>
      cases g
      exact .inl (.inl ⟨i, j, sx.int, sy.int, post_int w p⟩)
    | _ => cases g
  | str i =>
    cases e with
    | str j =>
      obtain ⟨rfl, h1⟩ := sx.str
      obtain ⟨rfl, h2⟩ := sy.str
      obtain ⟨hz, rfl⟩ := ite_some g
      exact .inl (.inr ⟨i, j, rfl, rfl, hz, post_str w (by rw [str_len]; exact hz) p⟩)
    | _ => cases g
  | list ds =>
    cases e with
    | list es =>
      obtain ⟨a, vs, rfl, q1, r1⟩ := sx.list
      obtain ⟨b, us, rfl, q2, r2⟩ := sy.list
      obtain ⟨hz, rfl⟩ := ite_some g
      exact .inr (.inl ⟨a, b, vs, us, rfl, rfl, q1, q2, by rw [r1.length, r2.length]; exact hz, post_list w (r1.append r2) p⟩)
    | _ => cases g
  | tuple ds =>
    cases e with
    | tuple es =>
      have sx' := sx
      have sy' := sy
      obtain ⟨a, vs, rfl, q1, r1⟩ := sx.tuple
      obtain ⟨b, us, rfl, q2, r2⟩ := sy.tuple
      obtain ⟨hz, rfl⟩ := ite_some g
      · refine .inr (.inr ⟨a, b, vs, us, rfl, rfl, q1, q2, by rw [r1.length, r2.length]; exact hz, fun e => ?_, fun _ e => ?_, fun _ _ => post_tup w (r1.append r2) p⟩)
        · subst e
          cases r1
          rcases sy' with sy' | ⟨_, _, _, _, h, _⟩
          · exact post_val w sy' p
          · cases h
        · subst e
          cases r2
          rcases sx' with sx' | ⟨_, _, _, _, h, _⟩
          · exact post_val w sx' (by simpa using p)
          · cases h
    | _ => cases g
  | _ => cases g
/-- ints alone -/
def dI (g : Int → Int → Option Rv) : D → D → Option Rv
  | .int i, .int j => g i j
  | _, _ => none
theorem intS {K : PySem.W.Frag} {C : Int → Int → Prop} [∀ i j, Decidable (C i j)] {f : Int → Int → Int} : OpS K (rI C fun i j => .int (f i j)) (dI fun i j => if C i j then some (di (f i j)) else none) := by
  intro O cs H x y d e z Q w sx sy g p
  cases d with
  | int i =>
    cases e with
    | int j =>
      change (if C i j then some (di (f i j)) else none) = some z at g
      obtain ⟨hz, rfl⟩ := ite_some g
      exact ⟨i, j, sx.int, sy.int, hz, post_int w p⟩
    | _ => cases g
  | _ => cases g
theorem intS0 {K : PySem.W.Frag} {f : Int → Int → Int} : OpS K (rI0 fun i j => .int (f i j)) (dI fun i j => some (di (f i j))) := by
  intro O cs H x y d e z Q w sx sy g p
  cases d with
  | int i =>
    cases e with
    | int j =>
      cases g
      exact ⟨i, j, sx.int, sy.int, post_int w p⟩
    | _ => cases g
  | _ => cases g
def dSub := dI fun i j => some (di (i - j))
theorem subS {K : PySem.W.Frag} : OpS K (rI0 fun i j => .int (i - j)) dSub := intS0
def dMod := dI fun i j => if j ≠ 0 then some (di (i.fmod j)) else none
theorem modS {K : PySem.W.Frag} : OpS K (rI (fun _ j => j ≠ 0) fun i j => .int (i.fmod j)) dMod := intS
/-- // -/
def CDv (_ j : Int) : Prop := j ≠ 0 ∧ j.natAbs.log2 < 9000
instance (i j : Int) : Decidable (CDv i j) := inferInstanceAs (Decidable (_ ∧ _))
theorem op_fdv : OpR X (binaryOp .FloorDiv) (rI CDv fun i j => .int (i.fdiv j)) := opI fun i j _ _ _ _ _ hc q => floordiv_int hc.1 q (.inl (PyProof.noPylong_of_log2 hc.2))
def dDiv := dI fun i j => if CDv i j then some (di (i.fdiv j)) else none
theorem divS {K : PySem.W.Frag} : OpS K (rI CDv fun i j => .int (i.fdiv j)) dDiv := intS
/-- ** -/
def CPw (i j : Int) : Prop := 0 ≤ j ∧ (Builtin.Int.intBits i : Int) * j ≤ 2 ^ 27
instance (i j : Int) : Decidable (CPw i j) := inferInstanceAs (Decidable (_ ∧ _))
theorem op_pw : OpR X (binaryOp .Pow) (rI CPw fun i j => .int (i ^ j.toNat)) := opI fun i j _ _ _ _ _ hc q => pow_int hc.1 hc.2 q
def dPow := dI fun i j => if CPw i j then some (di (i ^ j.toNat)) else none
theorem powS {K : PySem.W.Frag} : OpS K (rI CPw fun i j => .int (i ^ j.toNat)) dPow := intS
/-- * -/
def CMl (i j : Int) : Prop := i.natAbs.log2 + j.natAbs.log2 < 100000000
instance (i j : Int) : Decidable (CMl i j) := inferInstanceAs (Decidable (_ < _))
theorem CMl.ok {i j : Int} (h : CMl i j) : IntMulOk i j := by
  have bb : ∀ x : Int, Builtin.Int.intBits x ≤ x.natAbs.log2 + 1 := fun x => by
    unfold Builtin.Int.intBits
    split <;> omega
  have h1 := bb i
  have h2 := bb j
  have h3 : i.natAbs.log2 + j.natAbs.log2 < 100000000 := h
  have el : bitsLine = 134217728 := by decide
  intro zz
  rw [Bool.and_eq_true] at zz
  have z2 := zz.2
  unfold Builtin.Int.intTooBig at z2
  have z3 := of_decide_eq_true z2
  rw [el] at z3
  omega
theorem op_ml : OpR X (binaryOp .Mult) (rI CMl fun i j => .int (i * j)) := opI fun _ _ _ _ _ _ _ hc q => mul_int q hc.ok
def rRepL : R2 := fun x y H Q => ∃ l k xs, x = .ref l ∧ y = .int k ∧ H l = some (.lst xs) ∧ -(2 ^ 63) ≤ k ∧ k < 2 ^ 63 ∧ xs.length * k.toNat ≤ sizeLine ∧
  ∀ p, H p = none → Q (.ref p) (upd H p (.lst (List.replicate k.toNat xs).flatten))
def rMlS : R2 := fun x y H Q => ∃ (z : Str) (k : Int), x = .str z ∧ y = .int k ∧ 0 ≤ k ∧ k < 2 ^ 31 ∧ z.length * k.toNat ≤ 16777216 ∧ Q (.str (Txt.mul z k)) H
theorem tooLong_ok {n : Nat} (h : n ≤ 16777216) : Builtin.Str.tooLong n = false := by
  unfold Builtin.Str.tooLong
  rw [decide_eq_false_iff_not, sizeLine_eq]
  omega
theorem op_mlS : OpR X (binaryOp .Mult) rMlS := by
  intro pins s σ H x y v u Q I rx ry h
  obtain ⟨z, k, rfl, rfl, h0, h1, h2, q⟩ := h
  obtain ⟨t, rfl⟩ := rx
  obtain ⟨t', rfl⟩ := ry
  refine PySem.SB.mul ⟨?_, fun _ _ => ?_, fun _ _ => tooLong_ok h2⟩ fun t2 k2 => ⟨.str _, H, I.tok _, ⟨_, rfl⟩, q⟩
  · rw [decide_eq_false (by omega), decide_eq_false (by omega)]; rfl
  · have hk : 1 ≤ k := by omega
    have hz : (z.length : Int) * k ≤ 16777216 := by
      have h3 : ((z.length * k.toNat : Nat) : Int) ≤ 16777216 := Int.ofNat_le.mpr h2
      rw [Int.natCast_mul, Int.toNat_of_nonneg h0] at h3
      exact h3
    have h4 : (z.length : Int) ≤ (z.length : Int) * k := by
      have := Int.mul_le_mul_of_nonneg_left hk (Int.natCast_nonneg z.length)
      simpa using this
    have h5 : (4294967296 : Int) ≤ (2 ^ 63 - 1) / k := by
      rw [Int.le_ediv_iff_mul_le (by omega)]
      omega
    omega
end
end DL
namespace DL
open PySem PySem.Spec PyProof.Rows L2
section
variable {X : Cx}
/-! comparisons -/
/-- by data: C what is asked -/
def rD (K : PySem.W.Frag) (C : D → D → Prop) (g : D → D → Bool) : R2 := fun x y H Q => ∃ d e, Rp K H x d ∧ Rp K H y e ∧ C d e ∧ Q (.bl (g d e)) H
theorem dS {K : PySem.W.Frag} {C : D → D → Prop} [∀ d e, Decidable (C d e)] {g : D → D → Bool} : OpS K (rD K C g) (fun d e => if C d e then some (db (g d e)) else none) := by
  intro O cs H x y d e z Q w sx sy h p
  obtain ⟨hc, rfl⟩ := ite_some h
  exact ⟨d, e, sx.rp, sy.rp, hc, post_bool w p⟩
def CEq (d e : D) : Prop := d.plain = true ∧ e.plain = true ∧ min d.depth e.depth ≤ 100
instance (d e : D) : Decidable (CEq d e) := inferInstanceAs (Decidable (_ ∧ _))
theorem op_eqD' (rm : Rm X) : OpR X (compareOp .Eq) (rD X.K CEq PyData.eqv) := by
  intro pins s σ H x y v u Q I rx ry h
  obtain ⟨d, e, hd, he, hc, q⟩ := h
  obtain ⟨as, r1⟩ := hd.reads I (noF_plain hc.1) _ rx
  obtain ⟨bs, r2⟩ := he.reads I (noF_plain hc.2.1) _ ry
  have hu := rm.un
  have := hc.2.2
  exact PySem.SeqAt.eq_plain r1 r2 hc.1 hc.2.1 (by omega) ⟨.bl _, H, I, rfl, q⟩
theorem op_neD' (rm : Rm X) : OpR X (compareOp .NotEq) (rD X.K CEq fun d e => !PyData.eqv d e) := by
  intro pins s σ H x y v u Q I rx ry h
  obtain ⟨d, e, hd, he, hc, q⟩ := h
  obtain ⟨as, r1⟩ := hd.reads I (noF_plain hc.1) _ rx
  obtain ⟨bs, r2⟩ := he.reads I (noF_plain hc.2.1) _ ry
  have hu := rm.un
  have := hc.2.2
  exact PySem.SeqAt.ne_plain r1 r2 hc.1 hc.2.1 (by omega) ⟨.bl _, H, I, rfl, q⟩
def dEq (d e : D) : Option Rv := if CEq d e then some (db (PyData.eqv d e)) else none
def dNe (d e : D) : Option Rv := if CEq d e then some (db (!PyData.eqv d e)) else none
theorem eqS {K : PySem.W.Frag} : OpS K (rD K CEq PyData.eqv) dEq := dS
theorem neS {K : PySem.W.Frag} : OpS K (rD K CEq fun d e => !PyData.eqv d e) dNe := dS
def CLt (d e : D) : Prop := PySem.W.alike d e = true ∧ d ≠ .none ∧ min d.depth e.depth ≤ 100 ∧ noF d = true ∧ noF e = true
def isNonD : D → Bool
  | .none => true
  | _ => false
theorem isNonD_iff (d : D) : isNonD d = false ↔ d ≠ .none := by cases d <;> simp [isNonD]
instance (d e : D) : Decidable (CLt d e) := decidable_of_iff (PySem.W.alike d e = true ∧ isNonD d = false ∧ min d.depth e.depth ≤ 100 ∧ noF d = true ∧ noF e = true) (by unfold CLt; rw [isNonD_iff])
theorem cmp_any {op : CmpOp} {C : D → D → Prop} {g : D → D → Bool} (nf : ∀ d e, C d e → noF d = true ∧ noF e = true)
    (rule : ∀ (s : Shared) (a b : Value) (d e : D) (as bs : List Addr) (Q : Value → Shared → Prop), Reads s.heap a d as → Reads s.heap b e bs → C d e → Q (.bool (g d e)) s → wpAny (model X.prog X.w) X.A (compareOp op a b) Q X.xe s) : OpR X (compareOp op) (rD X.K C g) := by
  intro pins s σ H x y v u Q I rx ry h
  obtain ⟨d, e, hd, he, hc, q⟩ := h
  obtain ⟨as, r1⟩ := hd.reads I (nf _ _ hc).1 _ rx
  obtain ⟨bs, r2⟩ := he.reads I (nf _ _ hc).2 _ ry
  exact rule s v u d e as bs _ r1 r2 hc ⟨.bl _, H, I, rfl, q⟩
theorem op_ltD (rm : Rm X) : OpR X (compareOp .Lt) (rD X.K CLt fun d e => PySem.W.dataLt d e) := cmp_any (fun _ _ h => h.2.2.2) fun s a b d e as bs Q r1 r2 hc q => by
  have hu := rm.un
  have := hc.2.2.1
  exact PySem.W.lt_data r1 r2 hc.1 hc.2.1 (by omega) q
theorem op_gtD (rm : Rm X) : OpR X (compareOp .Gt) (rD X.K CLt fun d e => PySem.W.dataLt e d) := cmp_any (fun _ _ h => h.2.2.2) fun s a b d e as bs Q r1 r2 hc q => by
  have hu := rm.un
  have := hc.2.2.1
  exact PySem.W.gt_data r1 r2 hc.1 hc.2.1 (by omega) q
theorem op_leD (rm : Rm X) : OpR X (compareOp .LtE) (rD X.K CLt fun d e => !PySem.W.dataLt e d) := cmp_any (fun _ _ h => h.2.2.2) fun s a b d e as bs Q r1 r2 hc q => by
  have hu := rm.un
  have := hc.2.2.1
  exact PySem.W.le_data r1 r2 hc.1 hc.2.1 (by omega) q
theorem op_geD (rm : Rm X) : OpR X (compareOp .GtE) (rD X.K CLt fun d e => !PySem.W.dataLt d e) := cmp_any (fun _ _ h => h.2.2.2) fun s a b d e as bs Q r1 r2 hc q => by
  have hu := rm.un
  have := hc.2.2.1
  exact PySem.W.ge_data r1 r2 hc.1 hc.2.1 (by omega) q
/-- ints by themselves, else alike data -/
def dCmp (f : Int → Int → Bool) (g : D → D → Bool) : D → D → Option Rv
  | .int i, .int j => some (db (f i j))
  | d, e => if CLt d e then some (db (g d e)) else none
theorem cmpS {K : PySem.W.Frag} {f : Int → Int → Bool} {g : D → D → Bool} : OpS K (fun x y H Q => rI0 (fun i j => .bl (f i j)) x y H Q ∨ rD K CLt g x y H Q) (dCmp f g) := by
  intro O cs H x y d e z Q w sx sy h p
  by_cases hi : ∃ i j, d = .int i ∧ e = .int j
  · obtain ⟨i, j, rfl, rfl⟩ := hi
    cases h
    exact .inl ⟨i, j, sx.int, sy.int, post_bool w p⟩
  · have h' : (if CLt d e then some (db (g d e)) else none) = some z := by
      unfold dCmp at h
      split at h
      · exact absurd ⟨_, _, rfl, rfl⟩ hi
      · exact h
    obtain ⟨hc, rfl⟩ := ite_some h'
    exact .inr ⟨d, e, sx.rp, sy.rp, hc, post_bool w p⟩
def dLt := dCmp (fun i j => decide (i < j)) fun d e => PySem.W.dataLt d e
def dGt := dCmp (fun i j => decide (j < i)) fun d e => PySem.W.dataLt e d
def dLe := dCmp (fun i j => decide (i ≤ j)) fun d e => !PySem.W.dataLt e d
def dGe := dCmp (fun i j => decide (j ≤ i)) fun d e => !PySem.W.dataLt d e
theorem xe_lt {a b : Expr} {fa fb : ME} {pos : Pos} (rm : Rm X) (ha : XE X fa a) (hb : XE X fb b) : XE X (mB dLt fa fb) (.Compare a [.Lt] [b] pos) := xe_cmp (OpR.or op_lt (op_ltD rm)) cmpS ha hb
theorem xe_gt {a b : Expr} {fa fb : ME} {pos : Pos} (rm : Rm X) (ha : XE X fa a) (hb : XE X fb b) : XE X (mB dGt fa fb) (.Compare a [.Gt] [b] pos) := xe_cmp (OpR.or op_gt (op_gtD rm)) cmpS ha hb
theorem xe_le {a b : Expr} {fa fb : ME} {pos : Pos} (rm : Rm X) (ha : XE X fa a) (hb : XE X fb b) : XE X (mB dLe fa fb) (.Compare a [.LtE] [b] pos) := xe_cmp (OpR.or op_le (op_leD rm)) cmpS ha hb
theorem xe_ge {a b : Expr} {fa fb : ME} {pos : Pos} (rm : Rm X) (ha : XE X fa a) (hb : XE X fb b) : XE X (mB dGe fa fb) (.Compare a [.GtE] [b] pos) := xe_cmp (OpR.or op_ge (op_geD rm)) cmpS ha hb
theorem xe_eq {a b : Expr} {fa fb : ME} {pos : Pos} (rm : Rm X) (ha : XE X fa a) (hb : XE X fb b) : XE X (mB dEq fa fb) (.Compare a [.Eq] [b] pos) := xe_cmp (op_eqD' rm) eqS ha hb
theorem xe_ne {a b : Expr} {fa fb : ME} {pos : Pos} (rm : Rm X) (ha : XE X fa a) (hb : XE X fb b) : XE X (mB dNe fa fb) (.Compare a [.NotEq] [b] pos) := xe_cmp (op_neD' rm) neS ha hb
theorem xe_add {a b : Expr} {fa fb : ME} {pos : Pos} (ha : XE X fa a) (hb : XE X fb b) : XE X (mB dAdd fa fb) (.BinOp a .Add b pos) := xe_bin op_addD addS ha hb
theorem xe_sub {a b : Expr} {fa fb : ME} {pos : Pos} (ha : XE X fa a) (hb : XE X fb b) : XE X (mB dSub fa fb) (.BinOp a .Sub b pos) := xe_bin op_sub subS ha hb
theorem xe_mod {a b : Expr} {fa fb : ME} {pos : Pos} (ha : XE X fa a) (hb : XE X fb b) : XE X (mB dMod fa fb) (.BinOp a .Mod b pos) := xe_bin op_modN modS ha hb
theorem xe_div {a b : Expr} {fa fb : ME} {pos : Pos} (ha : XE X fa a) (hb : XE X fb b) : XE X (mB dDiv fa fb) (.BinOp a .FloorDiv b pos) := xe_bin op_fdv divS ha hb
theorem xe_pow {a b : Expr} {fa fb : ME} {pos : Pos} (ha : XE X fa a) (hb : XE X fb b) : XE X (mB dPow fa fb) (.BinOp a .Pow b pos) := xe_bin op_pw powS ha hb
/-! in, not in -/
def CIn (d e : D) : Prop := match e with
  | .list xs => PyData.plainAll xs = true ∧ d.plain = true ∧ min (PyData.depthAll xs) d.depth ≤ 100
  | .tuple xs => PyData.plainAll xs = true ∧ d.plain = true ∧ min (PyData.depthAll xs) d.depth ≤ 100
  | .str _ => match d with
    | .str _ => True
    | _ => False
  | _ => False
instance (d e : D) : Decidable (CIn d e) := by
  unfold CIn
  split
  · exact inferInstanceAs (Decidable (_ ∧ _))
  · exact inferInstanceAs (Decidable (_ ∧ _))
  · split
    · exact isTrue trivial
    · exact isFalse not_false
  · exact isFalse not_false
def inD (d e : D) : Bool := match e with
  | .list xs => xs.any fun y => PyData.eqv y d
  | .tuple xs => xs.any fun y => PyData.eqv y d
  | .str y => match d with
    | .str x => !(Builtin.Str.occurrences y x 0 y.length 1).isEmpty
    | _ => false
  | _ => false
theorem op_inD (rm : Rm X) : OpR X (compareOp .In) (rD X.K CIn inD) := by
  intro pins s σ H x y v u Q I rx ry h
  obtain ⟨d, e, hd, he, hc, q⟩ := h
  have hu := rm.un
  cases e with
  | list xs =>
    obtain ⟨as, r1⟩ := hd.reads I (noF_plain hc.2.1) _ rx
    obtain ⟨bs, r2⟩ := he.reads I (noF_plain (d := .list xs) hc.1) _ ry
    have h3 := hc.2.2
    exact PySem.SeqAt.in_list_data r2 r1 hc.1 hc.2.1 (by omega) ⟨.bl _, H, I, rfl, q⟩
  | tuple xs =>
    obtain ⟨as, r1⟩ := hd.reads I (noF_plain hc.2.1) _ rx
    obtain ⟨bs, r2⟩ := he.reads I (noF_plain (d := .tuple xs) hc.1) _ ry
    have h3 := hc.2.2
    exact PySem.SeqAt.in_tuple_data r2 r1 hc.1 hc.2.1 (by omega) ⟨.bl _, H, I, rfl, q⟩
  | str b =>
    cases d with
    | str a =>
      cases hd
      cases he
      exact op_in_str pins s σ H _ _ v u Q I rx ry ⟨a, b, rfl, rfl, q⟩
    | _ => exact hc.elim
  | _ => exact hc.elim
theorem op_ninD (rm : Rm X) : OpR X (compareOp .NotIn) (rD X.K CIn fun d e => !inD d e) := by
  intro pins s σ H x y v u Q I rx ry h
  obtain ⟨d, e, hd, he, hc, q⟩ := h
  have hu := rm.un
  cases e with
  | list xs =>
    obtain ⟨as, r1⟩ := hd.reads I (noF_plain hc.2.1) _ rx
    obtain ⟨bs, r2⟩ := he.reads I (noF_plain (d := .list xs) hc.1) _ ry
    have h3 := hc.2.2
    exact PySem.SeqAt.notIn_list_data r2 r1 hc.1 hc.2.1 (by omega) ⟨.bl _, H, I, rfl, q⟩
  | tuple xs =>
    obtain ⟨as, r1⟩ := hd.reads I (noF_plain hc.2.1) _ rx
    obtain ⟨bs, r2⟩ := he.reads I (noF_plain (d := .tuple xs) hc.1) _ ry
    have h3 := hc.2.2
    exact PySem.SeqAt.notIn_tuple_data r2 r1 hc.1 hc.2.1 (by omega) ⟨.bl _, H, I, rfl, q⟩
  | str b =>
    cases d with
    | str a =>
      cases hd
      cases he
      exact L2.op_notIn_str pins s σ H _ _ v u Q I rx ry ⟨a, b, rfl, rfl, q⟩
    | _ => exact hc.elim
  | _ => exact hc.elim
def dIn (d e : D) : Option Rv := if CIn d e then some (db (inD d e)) else none
def dNotIn (d e : D) : Option Rv := if CIn d e then some (db (!inD d e)) else none
theorem xe_in {a b : Expr} {fa fb : ME} {pos : Pos} (rm : Rm X) (ha : XE X fa a) (hb : XE X fb b) (hm : behindInMarks .In b = false := by rfl) : XE X (mB dIn fa fb) (.Compare a [.In] [b] pos) := xe_cmp (op_inD rm) dS ha hb hm
theorem xe_notin {a b : Expr} {fa fb : ME} {pos : Pos} (rm : Rm X) (ha : XE X fa a) (hb : XE X fb b) (hm : behindInMarks .NotIn b = false := by rfl) : XE X (mB dNotIn fa fb) (.Compare a [.NotIn] [b] pos) := xe_cmp (op_ninD rm) dS ha hb hm
/-! is: with None, True, False -/
def isD (d e : D) : Option Bool := match e with
  | .none => some (match d with
    | .none => true
    | _ => false)
  | .bool b => some (match d with
    | .bool a => a == b
    | _ => false)
  | _ => none
theorem is_bool_gen {M : Model} {A : Around} {E : Value → Shared → Prop} {s : Shared} {Q : Value → Shared → Prop} {v : Value} {b : Bool} (hv : ∀ i, v ≠ .builtin i) (h : Q (.bool (v == .bool b)) s) : wpAny M A (compareOp .Is v (.bool b)) Q E s := by
  cases v <;> first | exact wpAny_pure h | exact absurd rfl (hv _)
theorem isnot_bool_gen {M : Model} {A : Around} {E : Value → Shared → Prop} {s : Shared} {Q : Value → Shared → Prop} {v : Value} {b : Bool} (hv : ∀ i, v ≠ .builtin i) (h : Q (.bool (!(v == .bool b))) s) : wpAny M A (compareOp .IsNot v (.bool b)) Q E s := by
  cases v <;> first | exact wpAny_pure h | exact absurd rfl (hv _)
theorem no_blt {x : V} {v : Value} (r : RelV x v) : ∀ i, v ≠ .builtin i := fun i e => by
  subst e
  cases x with
  | non => cases (show Value.builtin i = .none from r)
  | bl _ => cases (show Value.builtin i = .bool _ from r)
  | int _ => obtain ⟨t, h⟩ := (show ∃ t, Value.builtin i = .int _ t from r); cases h
  | str _ => obtain ⟨t, h⟩ := (show ∃ t, Value.builtin i = .str _ t from r); cases h
  | byt _ => obtain ⟨t, h⟩ := (show ∃ t, Value.builtin i = .bytes _ t from r); cases h
  | flt _ => obtain ⟨t, h⟩ := (show ∃ t, Value.builtin i = .float _ t from r); cases h
  | ref _ => cases (show Value.builtin i = .ref _ from r)
  | ty _ => cases (show Value.builtin i = .type _ from r)
theorem isV {K : PySem.W.Frag} {H : Hp} {x y : V} {v u : Value} {d e : D} {k : Bool} (hd : Rp K H x d) (he : Rp K H y e) (rx : RelV x v) (ry : RelV y u) (h : isD d e = some k) : (v == u) = k ∧ (u = .none ∨ ∃ b, u = .bool b) := by
  cases he with
  | non =>
    cases (show u = .none from ry)
    cases h
    refine ⟨?_, .inl rfl⟩
    rw [rx.none_iff]
    cases hd <;> rfl
  | bl b =>
    cases (show u = .bool b from ry)
    cases h
    refine ⟨?_, .inr ⟨b, rfl⟩⟩
    cases hd with
    | non => cases (show v = .none from rx); rfl
    | bl a => cases (show v = .bool a from rx); cases a <;> cases b <;> rfl
    | int i => obtain ⟨t, rfl⟩ := (show ∃ t, v = .int i t from rx); rfl
    | str i => obtain ⟨t, rfl⟩ := (show ∃ t, v = .str i t from rx); rfl
    | lst _ _ => cases (show v = .ref _ from rx); rfl
    | tup _ _ => cases (show v = .ref _ from rx); rfl
    | dct _ _ _ => cases (show v = .ref _ from rx); rfl
    | fn _ => cases (show v = .ref _ from rx); rfl
  | _ => cases h
def rIs (K : PySem.W.Frag) (f : Bool → Bool) : R2 := fun x y H Q => ∃ d e k, Rp K H x d ∧ Rp K H y e ∧ isD d e = some k ∧ Q (.bl (f k)) H
theorem op_isD : OpR X (compareOp .Is) (rIs X.K id) := by
  intro pins s σ H x y v u Q I rx ry h
  obtain ⟨d, e, k, hd, he, hk, q⟩ := h
  obtain ⟨h1, h2⟩ := isV hd he rx ry hk
  rcases h2 with rfl | ⟨b, rfl⟩
  · exact is_none_gen ⟨.bl _, H, I, by rw [h1]; rfl, q⟩
  · exact is_bool_gen (no_blt rx) ⟨.bl _, H, I, by rw [h1]; rfl, q⟩
theorem op_isnD : OpR X (compareOp .IsNot) (rIs X.K not) := by
  intro pins s σ H x y v u Q I rx ry h
  obtain ⟨d, e, k, hd, he, hk, q⟩ := h
  obtain ⟨h1, h2⟩ := isV hd he rx ry hk
  rcases h2 with rfl | ⟨b, rfl⟩
  · exact isnot_none_gen ⟨.bl _, H, I, by rw [h1]; rfl, q⟩
  · exact isnot_bool_gen (no_blt rx) ⟨.bl _, H, I, by rw [h1]; rfl, q⟩
def dIs (f : Bool → Bool) (d e : D) : Option Rv := (isD d e).map fun k => db (f k)
theorem isS {K : PySem.W.Frag} {f : Bool → Bool} : OpS K (rIs K f) (dIs f) := by
  intro O cs H x y d e z Q w sx sy h p
  obtain ⟨k, hk, rfl⟩ := Option.map_eq_some_iff.mp h
  exact ⟨d, e, k, sx.rp, sy.rp, hk, post_bool w p⟩
theorem xe_is {a b : Expr} {fa fb : ME} {pos : Pos} (ha : XE X fa a) (hb : XE X fb b) : XE X (mB (dIs id) fa fb) (.Compare a [.Is] [b] pos) := xe_cmp op_isD isS ha hb
theorem xe_isnot {a b : Expr} {fa fb : ME} {pos : Pos} (ha : XE X fa a) (hb : XE X fb b) : XE X (mB (dIs not) fa fb) (.Compare a [.IsNot] [b] pos) := xe_cmp op_isnD isS ha hb
/-! not, and, or -/
def dNeg : D → Option Rv
  | .int i => some (di (-i))
  | _ => none
theorem xe_neg {a : Expr} {fa : ME} {pos : Pos} (ha : XE X fa a) : XE X (mU dNeg fa) (.UnaryOp .USub a pos) := xe_un un_neg (fun O cs H x d z Q w sx h p => by
  cases d with
  | int i => cases h; exact ⟨i, sx.int, post_int w p⟩
  | _ => cases h) ha
def dNot (d : D) : Option Rv := (truD d).map fun k => db (!k)
theorem xe_not {a : Expr} {fa : ME} {pos : Pos} (ha : XE X fa a) : XE X (mU dNot fa) (.UnaryOp .Not a pos) :=
  pe_weak (pe_notT ha) fun σ H Q ⟨ρ, O, cs, z, cs', e, en, w, p⟩ => by
    obtain ⟨x, d, h1, h2, h3⟩ := mU_some e
    obtain ⟨k, hk, rfl⟩ := Option.map_eq_some_iff.mp h3
    exact ⟨ρ, O, cs, x, cs', h1, en, w, fun v1 H1 c1 w1 r1 => ⟨k, truD_v (r1.deg.sh w1 h2) hk, post_bool w1 (p.step c1 w1)⟩⟩
def mAnd (fa fb : ME) : ME := fun ρ cs => (fa ρ cs).bind fun p => (rd (deg p.1) p.2).bind fun d => (truD d).bind fun k => if k = true then fb ρ p.2 else some (deg p.1, p.2)
def mOr (fa fb : ME) : ME := fun ρ cs => (fa ρ cs).bind fun p => (rd (deg p.1) p.2).bind fun d => (truD d).bind fun k => if k = true then some (deg p.1, p.2) else fb ρ p.2
theorem ArR.rv {K : PySem.W.Frag} {O : List (Option Addr)} {H H0 : Hp} {cs : Cs} {r : Rv} {v : V} (h : ArR K O r v H) : RvR K O H0 cs r v H := by
  cases r with
  | dat d => exact h
  | own k => exact h
  | fr c => exact h.elim
  | exn nm d => exact h
theorem xe_and {a b : Expr} {rest : List Expr} {fa fb : ME} {pos : Pos} (ha : XE X fa a) (hb : XE X fb (.BoolOp .And (b :: rest) pos)) : XE X (mAnd fa fb) (.BoolOp .And (a :: b :: rest) pos) :=
  pe_weak (pe_andT ha hb) fun σ H Q ⟨ρ, O, cs, z, cs', e, en, w, p⟩ => by
    unfold mAnd at e
    obtain ⟨⟨x, cs1⟩, h1, e⟩ := Option.bind_eq_some_iff.mp e
    obtain ⟨d, h2, e⟩ := Option.bind_eq_some_iff.mp e
    obtain ⟨k, h3, e⟩ := Option.bind_eq_some_iff.mp e
    refine ⟨ρ, O, cs, x, cs1, h1, en, w, fun v1 H1 c1 w1 r1 => ⟨k, truD_v (r1.deg.sh w1 h2) h3, ?_⟩⟩
    cases k with
    | true => exact ⟨ρ, O, cs1, z, cs', e, en.ch c1, w1, p.step c1 w1⟩
    | false =>
      cases e
      exact p v1 H1 c1 w1 (r1.deg.rv)
theorem xe_or {a b : Expr} {rest : List Expr} {fa fb : ME} {pos : Pos} (ha : XE X fa a) (hb : XE X fb (.BoolOp .Or (b :: rest) pos)) : XE X (mOr fa fb) (.BoolOp .Or (a :: b :: rest) pos) :=
  pe_weak (pe_orT ha hb) fun σ H Q ⟨ρ, O, cs, z, cs', e, en, w, p⟩ => by
    unfold mOr at e
    obtain ⟨⟨x, cs1⟩, h1, e⟩ := Option.bind_eq_some_iff.mp e
    obtain ⟨d, h2, e⟩ := Option.bind_eq_some_iff.mp e
    obtain ⟨k, h3, e⟩ := Option.bind_eq_some_iff.mp e
    refine ⟨ρ, O, cs, x, cs1, h1, en, w, fun v1 H1 c1 w1 r1 => ⟨k, truD_v (r1.deg.sh w1 h2) h3, ?_⟩⟩
    cases k with
    | false => exact ⟨ρ, O, cs1, z, cs', e, en.ch c1, w1, p.step c1 w1⟩
    | true =>
      cases e
      exact p v1 H1 c1 w1 (r1.deg.rv)
theorem xe_or1 {a : Expr} {fa : ME} {pos : Pos} (ha : XE X fa a) : XE X fa (.BoolOp .Or [a] pos) := pe_one ha
theorem xe_and1 {a : Expr} {fa : ME} {pos : Pos} (ha : XE X fa a) : XE X fa (.BoolOp .And [a] pos) := pe_one ha
end
end DL
namespace DL
open PySem PySem.Spec PyProof.Rows L2
section
variable {X : Cx}
/-! tests -/
def mTB (f : ME) : MT := fun ρ cs => (f ρ cs).bind fun p => match p.1 with
  | .dat (.bool b) => some (b, p.2)
  | _ => none
theorem mTB_some {f : ME} {ρ : Rho} {cs cs' : Cs} {b : Bool} (h : mTB f ρ cs = some (b, cs')) : f ρ cs = some (db b, cs') := by
  unfold mTB at h
  obtain ⟨⟨x, cs1⟩, h1, h⟩ := Option.bind_eq_some_iff.mp h
  cases x with
  | dat d =>
    cases d with
    | bool c => cases h; exact h1
    | _ => cases h
  | _ => cases h
theorem tTest_of {K : PySem.W.Frag} {f : ME} {t : TE} (h : ∀ σ H Q, tX K f σ H Q → t σ H Q) : ∀ σ H Q, tXT K (mTB f) σ H Q → tTest t σ H Q := fun σ H Q ⟨ρ, O, cs, b, cs', e, en, w, p⟩ =>
  h σ H _ ⟨ρ, O, cs, db b, cs', mTB_some e, en, w, fun v H' c' w' rv => by
    cases (show Rp K (hd O H') v (.bool b) from rv)
    exact ⟨b, rfl, p H' c' w'⟩⟩
theorem xt_cmp {op : CmpOp} {r : R2} {g : D → D → Option Rv} {a b : Expr} {fa fb : ME} {pos : Pos} (ho : OpR X (compareOp op) r) (hs : OpS X.K r g) (ha : XE X fa a) (hb : XE X fb b) (hm : behindInMarks op b = false := by first | exact nobehind _ (by decide) (by decide) | rfl) :
    XT X (mTB (mB g fa fb)) (.Compare a [op] [b] pos) := pt_weak (pt_cmpR ho ha hb hm) (tTest_of fun σ H Q h => tOp_of hs h)
theorem xt_lt {a b : Expr} {fa fb : ME} {pos : Pos} (rm : Rm X) (ha : XE X fa a) (hb : XE X fb b) : XT X (mTB (mB dLt fa fb)) (.Compare a [.Lt] [b] pos) := xt_cmp (OpR.or op_lt (op_ltD rm)) cmpS ha hb
theorem xt_gt {a b : Expr} {fa fb : ME} {pos : Pos} (rm : Rm X) (ha : XE X fa a) (hb : XE X fb b) : XT X (mTB (mB dGt fa fb)) (.Compare a [.Gt] [b] pos) := xt_cmp (OpR.or op_gt (op_gtD rm)) cmpS ha hb
theorem xt_le {a b : Expr} {fa fb : ME} {pos : Pos} (rm : Rm X) (ha : XE X fa a) (hb : XE X fb b) : XT X (mTB (mB dLe fa fb)) (.Compare a [.LtE] [b] pos) := xt_cmp (OpR.or op_le (op_leD rm)) cmpS ha hb
theorem xt_ge {a b : Expr} {fa fb : ME} {pos : Pos} (rm : Rm X) (ha : XE X fa a) (hb : XE X fb b) : XT X (mTB (mB dGe fa fb)) (.Compare a [.GtE] [b] pos) := xt_cmp (OpR.or op_ge (op_geD rm)) cmpS ha hb
theorem xt_eq {a b : Expr} {fa fb : ME} {pos : Pos} (rm : Rm X) (ha : XE X fa a) (hb : XE X fb b) : XT X (mTB (mB dEq fa fb)) (.Compare a [.Eq] [b] pos) := xt_cmp (op_eqD' rm) eqS ha hb
theorem xt_ne {a b : Expr} {fa fb : ME} {pos : Pos} (rm : Rm X) (ha : XE X fa a) (hb : XE X fb b) : XT X (mTB (mB dNe fa fb)) (.Compare a [.NotEq] [b] pos) := xt_cmp (op_neD' rm) neS ha hb
theorem xt_in {a b : Expr} {fa fb : ME} {pos : Pos} (rm : Rm X) (ha : XE X fa a) (hb : XE X fb b) (hm : behindInMarks .In b = false := by rfl) : XT X (mTB (mB dIn fa fb)) (.Compare a [.In] [b] pos) := xt_cmp (op_inD rm) dS ha hb hm
theorem xt_notin {a b : Expr} {fa fb : ME} {pos : Pos} (rm : Rm X) (ha : XE X fa a) (hb : XE X fb b) (hm : behindInMarks .NotIn b = false := by rfl) : XT X (mTB (mB dNotIn fa fb)) (.Compare a [.NotIn] [b] pos) := xt_cmp (op_ninD rm) dS ha hb hm
theorem xt_is {a b : Expr} {fa fb : ME} {pos : Pos} (ha : XE X fa a) (hb : XE X fb b) : XT X (mTB (mB (dIs id) fa fb)) (.Compare a [.Is] [b] pos) := xt_cmp op_isD isS ha hb
theorem xt_isnot {a b : Expr} {fa fb : ME} {pos : Pos} (ha : XE X fa a) (hb : XE X fb b) : XT X (mTB (mB (dIs not) fa fb)) (.Compare a [.IsNot] [b] pos) := xt_cmp op_isnD isS ha hb
def mTNot (f : MT) : MT := fun ρ cs => (f ρ cs).map fun p => (!p.1, p.2)
theorem xt_not {a : Expr} {f : MT} {pos : Pos} (ha : XT X f a) : XT X (mTNot f) (.UnaryOp .Not a pos) :=
  pt_weak (pt_not ha) fun σ H Q ⟨ρ, O, cs, b, cs', e, en, w, p⟩ => by
    obtain ⟨⟨c, cs1⟩, h1, h⟩ := Option.map_eq_some_iff.mp e
    cases h
    exact ⟨ρ, O, cs, c, cs1, h1, en, w, p⟩
def XW (X : Cx) (f : MT) (e : Expr) : Prop := PW X e (tXT X.K f)
theorem pw_weak {e : Expr} {t t' : TT} (h : PW X e t) (w : ∀ σ H Q, t' σ H Q → t σ H Q) : PW X e t' := ⟨fun wh pins s σ H Q I q => h.run wh pins s σ H Q I (w _ _ _ q)⟩
def mTAnd (f g : MT) : MT := fun ρ cs => (f ρ cs).bind fun p => if p.1 = true then g ρ p.2 else some (false, p.2)
def mTOr (f g : MT) : MT := fun ρ cs => (f ρ cs).bind fun p => if p.1 = true then some (true, p.2) else g ρ p.2
theorem xw_and1 {a : Expr} {f : MT} {pos : Pos} (ha : XT X f a) : XW X f (.BoolOp .And [a] pos) := pw_and1 ha
theorem xw_or1 {a : Expr} {f : MT} {pos : Pos} (ha : XT X f a) : XW X f (.BoolOp .Or [a] pos) := pw_or1 ha
theorem xw_and {a b : Expr} {rest : List Expr} {f g : MT} {pos : Pos} (ha : XT X f a) (hb : XW X g (.BoolOp .And (b :: rest) pos)) : XW X (mTAnd f g) (.BoolOp .And (a :: b :: rest) pos) :=
  pw_weak (pw_and ha hb) fun σ H Q ⟨ρ, O, cs, b, cs', e, en, w, p⟩ => by
    obtain ⟨⟨c, cs1⟩, h1, h⟩ := Option.bind_eq_some_iff.mp e
    refine ⟨ρ, O, cs, c, cs1, h1, en, w, fun H1 c1 w1 => ?_⟩
    cases c with
    | true => exact ⟨ρ, O, cs1, b, cs', h, en.ch c1, w1, p.step c1⟩
    | false => cases h; exact p H1 c1 w1
theorem xw_or {a b : Expr} {rest : List Expr} {f g : MT} {pos : Pos} (ha : XT X f a) (hb : XW X g (.BoolOp .Or (b :: rest) pos)) : XW X (mTOr f g) (.BoolOp .Or (a :: b :: rest) pos) :=
  pw_weak (pw_or ha hb) fun σ H Q ⟨ρ, O, cs, b, cs', e, en, w, p⟩ => by
    obtain ⟨⟨c, cs1⟩, h1, h⟩ := Option.bind_eq_some_iff.mp e
    refine ⟨ρ, O, cs, c, cs1, h1, en, w, fun H1 c1 w1 => ?_⟩
    cases c with
    | false => exact ⟨ρ, O, cs1, b, cs', h, en.ch c1, w1, p.step c1⟩
    | true => cases h; exact p H1 c1 w1
theorem xt_w {a : Expr} {f : MT} (h : XW X f a) : XT X f a := PW.pt h
def mIf (c : MT) (fa fb : ME) : ME := fun ρ cs => (c ρ cs).bind fun p => if p.1 = true then fa ρ p.2 else fb ρ p.2
theorem xe_if {c a b : Expr} {f : MT} {fa fb : ME} {pos : Pos} (hc : XT X f c) (ha : XE X fa a) (hb : XE X fb b) : XE X (mIf f fa fb) (.IfExp c a b pos) :=
  pe_weak (pe_ifExp hc ha hb) fun σ H Q ⟨ρ, O, cs, z, cs', e, en, w, p⟩ => by
    obtain ⟨⟨k, cs1⟩, h1, h⟩ := Option.bind_eq_some_iff.mp e
    refine ⟨ρ, O, cs, k, cs1, h1, en, w, fun H1 c1 w1 => ?_⟩
    cases k with
    | true => exact ⟨ρ, O, cs1, z, cs', h, en.ch c1, w1, p.step c1 w1⟩
    | false => exact ⟨ρ, O, cs1, z, cs', h, en.ch c1, w1, p.step c1 w1⟩
/-! a chain of two comparisons: of ints alone -/
def intOf : Rv → Option Int
  | .dat (.int i) => some i
  | _ => none
theorem intOf_some {r : Rv} {i : Int} (h : intOf r = some i) : r = di i := by
  cases r with
  | dat d =>
    cases d with
    | int j => cases h; rfl
    | _ => cases h
  | _ => cases h
def mChain (g g' : Int → Int → Bool) (fa fb fc : ME) : ME := fun ρ cs => (fa ρ cs).bind fun p => (fb ρ p.2).bind fun q => (intOf p.1).bind fun i => (intOf q.1).bind fun j =>
  if g i j = true then (fc ρ q.2).bind fun r => (intOf r.1).bind fun k => some (db (g' j k), r.2) else some (db false, q.2)
theorem tChain_of {K : PySem.W.Frag} {g g' : Int → Int → Bool} {fa fb fc : ME} {σ : L2.St} {H : Hp} {Q : VK} (h : tX K (mChain g g' fa fb fc) σ H Q) :
    tChain (rI0 fun i j => .bl (g i j)) (rI0 fun i j => .bl (g' i j)) (tX K fa) (tX K fb) (tX K fc) σ H Q := by
  obtain ⟨ρ, O, cs, z, cs', e, en, w, p⟩ := h
  unfold mChain at e
  obtain ⟨⟨x, cs1⟩, h1, e1⟩ := Option.bind_eq_some_iff.mp e
  clear e
  obtain ⟨⟨y, cs2⟩, h2, e2⟩ := Option.bind_eq_some_iff.mp e1
  clear e1
  obtain ⟨i, hi, e3⟩ := Option.bind_eq_some_iff.mp e2
  clear e2
  obtain ⟨j, hj, e4⟩ := Option.bind_eq_some_iff.mp e3
  clear e3
  obtain rfl : x = di i := intOf_some hi
  obtain rfl : y = di j := intOf_some hj
  refine ⟨ρ, O, cs, _, cs1, h1, en, w, fun v1 H1 c1 w1 r1 => ?_⟩
  refine ⟨ρ, O, cs1, _, cs2, h2, en.ch c1, w1, fun v2 H2 c2 w2 r2 => ?_⟩
  cases (show Rp K (hd O H1) v1 (.int i) from r1)
  cases (show Rp K (hd O H2) v2 (.int j) from r2)
  refine ⟨i, j, rfl, rfl, g i j, rfl, ?_⟩
  by_cases hg : g i j = true
  · rw [if_pos hg] at e4 ⊢
    obtain ⟨⟨r, cs3⟩, h3, e5⟩ := Option.bind_eq_some_iff.mp e4
    clear e4
    obtain ⟨k, hk, e6⟩ := Option.bind_eq_some_iff.mp e5
    clear e5
    obtain rfl : r = di k := intOf_some hk
    cases e6
    refine ⟨ρ, O, cs2, _, cs3, h3, en.ch (c1.trans c2), w2, fun v3 H3 c3 w3 r3 => ?_⟩
    cases (show Rp K (hd O H3) v3 (.int k) from r3)
    exact ⟨j, k, rfl, rfl, post_bool w3 (p.step ((c1.trans c2).trans c3) w3)⟩
  · rw [if_neg hg] at e4 ⊢
    cases e4
    exact post_bool w2 (p.step (c1.trans c2) w2)
theorem xe_chain {op op' : CmpOp} {g g' : Int → Int → Bool} {a b c : Expr} {fa fb fc : ME} {pos : Pos} (ho : OpR X (compareOp op) (rI0 fun i j => .bl (g i j))) (ho' : OpR X (compareOp op') (rI0 fun i j => .bl (g' i j))) (ha : XE X fa a) (hb : XE X fb b) (hc : XE X fc c)
    (hm : lastMarks [op, op'] [b, c] = false := by with_unfolding_all rfl) : XE X (mChain g g' fa fb fc) (.Compare a [op, op'] [b, c] pos) := pe_weak (pe_chain ho ho' ha hb hc hm) fun σ H Q h => tChain_of h
theorem xt_chain {op op' : CmpOp} {g g' : Int → Int → Bool} {a b c : Expr} {fa fb fc : ME} {pos : Pos} (ho : OpR X (compareOp op) (rI0 fun i j => .bl (g i j))) (ho' : OpR X (compareOp op') (rI0 fun i j => .bl (g' i j))) (ha : XE X fa a) (hb : XE X fb b) (hc : XE X fc c)
    (hm : lastMarks [op, op'] [b, c] = false := by with_unfolding_all rfl) : XT X (mTB (mChain g g' fa fb fc)) (.Compare a [op, op'] [b, c] pos) := pt_weak (pt_chain ho ho' ha hb hc hm) (tTest_of fun σ H Q h => tChain_of h)

/-! * -/
def rMlD : R2 := fun x y H Q => rI CMl (fun i j => .int (i * j)) x y H Q ∨ rMlS x y H Q
theorem mul_len (z : Str) (k : Int) (h : 0 ≤ k) : (Txt.mul z k).length ≤ z.length * k.toNat := by
  unfold Txt.mul
  split
  · exact Nat.zero_le _
  · split
    · rename_i h1 h2
      rcases (by simpa using h2 : k = 1 ∨ z.length = 0) with e | e
      · subst e; simp
      · rw [e]; simp
    · rename_i h1 h2
      generalize k.toNat = m
      have : ∀ (m : Nat) (acc : Array Nat), ((List.replicate m z.cps).foldl (· ++ ·) acc).size = acc.size + z.cps.size * m := by
        intro m
        induction m with
        | zero => intro acc; simp
        | succ m ih => intro acc; rw [List.replicate_succ, List.foldl_cons, ih, Array.size_append, Nat.mul_succ]; omega
      show ((List.replicate m z.cps).foldl (· ++ ·) #[]).size ≤ z.cps.size * m
      rw [this]; simp
/-- list * int -/
theorem op_repR : OpR X (binaryOp .Mult) (fun x y H Q => ∃ l k xs, x = .ref l ∧ y = .int k ∧ H l = some (.lst xs) ∧ -(2 ^ 63) ≤ k ∧ k < 2 ^ 63 ∧ xs.length * k.toNat ≤ sizeLine ∧
  ∀ p, H p = none → Q (.ref p) (upd H p (.lst (List.replicate k.toNat xs).flatten))) := op_rep
end
end DL
namespace DL
open PySem PySem.Spec PyProof.Rows L2
section
variable {X : Cx}
/-! * -/
def rRpL (K : PySem.W.Frag) : R2 := fun x y H Q => ∃ l k xs, x = .ref l ∧ y = .int k ∧ LstAt K H l xs ∧ 0 ≤ k ∧ k < 2 ^ 31 ∧ xs.length * k.toNat ≤ sizeLine ∧ ∀ p, H p = none → Q (.ref p) (upd H p (.lst (List.replicate k.toNat xs).flatten))
theorem rep_fold (its : List Value) (m : Nat) : (List.replicate (if its.toArray.isEmpty = true then 0 else m) its.toArray).foldl (fun a b => a ++ b) #[] = (List.replicate m its).flatten.toArray := by
  have f0 : ∀ k : Nat, (List.replicate k its.toArray).foldl (fun a b => a ++ b) #[] = (List.replicate k its).flatten.toArray := fun k => by
    have := foldl_rep its k []
    simpa using this
  cases its with
  | nil => rw [f0]; simp
  | cons a r =>
    rw [if_neg (by simp)]
    exact f0 m
theorem op_rpL : OpR X (binaryOp .Mult) (rRpL X.K) := by
  intro pins s σ H x y v u Q I rx ry h
  obtain ⟨l, k, xs, rfl, rfl, hr, k0, k1, hz, q⟩ := h
  obtain ⟨hw, its, n, r, e⟩ := lst_rd I hr
  have hv : v = Value.ref l := rx
  subst hv
  obtain ⟨t, ht⟩ := (show ∃ t, u = Value.int k t from ry)
  subst ht
  have hlen := r.length
  have c1 : its.toArray.size * k.toNat ≤ sizeLine := by rw [List.size_toArray, ← hlen]; exact hz
  have c2 : ¬ its.toArray.size * k.toNat > (2 ^ 63 - 1) / 8 := by
    have : (sizeLine : Nat) ≤ (2 ^ 63 - 1) / 8 := by rw [sizeLine_eq]; decide
    omega
  have c3 : ¬ (!Builtin.List.listFitsIndex k) = true := by
    rw [fitsIndex_both (by omega) (by omega)]
    simp
  have c4 : ¬ Builtin.List.listTooLong (its.toArray.size * k.toNat) = true := by
    rw [notLongL c1]
    simp
  have st : s.TypeIs (.ref l) "list" := ⟨_, e, rfl⟩
  refine wpAny_binaryOp_repeat_ref (T := "list") (U := "int") (by decide) st (fun s' => typeIs_int s' k t) noFill_list_mul F.fills_int_mul F.slot_int_rmul repeat_list F.slot_int_index.lookup ?_
  refine call_meets F.slot_int_rmul (typeIs_int s k t) F.entry_int_rmul (F.args_int_rmul_2 _ _) (int___rmul___int_list k t l its.toArray n) ⟨e, rfl, st, ?_⟩
  refine call_meets F.slot_list_mul st F.entry_list_mul (F.args_list_mul_2 _ _) (AutoListH.list___mul___list_int_3 l its.toArray n k t c3 c2 c4) ⟨e, ?_⟩
  rw [rep_fold]
  refine ⟨.ref _, _, I.lnew (t' := s.toks) (r.rep k.toNat) ?_, rfl, q _ I.fresh⟩
  rw [PyProof.Rows.lm_len_rep_flat, Nat.mul_comm]
  exact hz
theorem RpAll.rep {K : PySem.W.Frag} {H : Hp} {vs : List V} {ds : List D} (h : RpAll K H vs ds) : ∀ k : Nat, RpAll K H (List.replicate k vs).flatten (List.replicate k ds).flatten
  | 0 => .nil
  | k + 1 => by
    rw [List.replicate_succ, List.replicate_succ, List.flatten_cons, List.flatten_cons]
    exact h.append (RpAll.rep h k)
def dMul : D → D → Option Rv
  | .int i, .int j => if CMl i j then some (di (i * j)) else none
  | .str z, .int k => if 0 ≤ k ∧ k < 2 ^ 31 ∧ z.length * k.toNat ≤ 16777216 then some (.dat (.str (Txt.mul z k))) else none
  | .list ds, .int k => if 0 ≤ k ∧ k < 2 ^ 31 ∧ ds.length * k.toNat ≤ sizeLine then some (.fr (List.replicate k.toNat ds).flatten) else none
  | _, _ => none
def rMulD (K : PySem.W.Frag) : R2 := fun x y H Q => rI CMl (fun i j => .int (i * j)) x y H Q ∨ rMlS x y H Q ∨ rRpL K x y H Q
theorem op_mulD : OpR X (binaryOp .Mult) (rMulD X.K) := OpR.or op_ml (OpR.or op_mlS op_rpL)
theorem mulS {K : PySem.W.Frag} : OpS K (rMulD K) dMul := by
  intro O cs H x y d e z Q w sx sy g p
  cases d with
  | int i =>
    cases e with
    | int j =>
      obtain ⟨hz, rfl⟩ := ite_some g
      exact .inl ⟨i, j, sx.int, sy.int, hz, post_int w p⟩
    | _ => cases g
  | str i =>
    cases e with
    | int k =>
      obtain ⟨rfl, h1⟩ := sx.str
      obtain ⟨hz, rfl⟩ := ite_some g
      refine .inr (.inl ⟨i, k, rfl, sy.int, hz.1, hz.2.1, hz.2.2, post_str w ?_ p⟩)
      exact Nat.le_trans (mul_len i k hz.1) (by rw [sizeLine_eq]; exact hz.2.2)
    | _ => cases g
  | list ds =>
    cases e with
    | int k =>
      obtain ⟨a, vs, rfl, q1, r1⟩ := sx.list
      obtain ⟨hz, rfl⟩ := ite_some g
      exact .inr (.inr ⟨a, k, vs, rfl, sy.int, q1, hz.1, hz.2.1, by rw [r1.length]; exact hz.2.2, post_list w (r1.rep _) p⟩)
    | _ => cases g
  | _ => cases g
theorem xe_mul {a b : Expr} {fa fb : ME} {pos : Pos} (ha : XE X fa a) (hb : XE X fb b) : XE X (mB dMul fa fb) (.BinOp a .Mult b pos) := xe_bin op_mulD mulS ha hb

/-! len -/
def dLen : List D → Option Rv
  | [.list ds] => some (di ds.length)
  | [.tuple ds] => some (di ds.length)
  | [.str x] => some (di x.length)
  | _ => none
theorem Paired.one {α β : Type} {R : α → β → Prop} {xs : List α} {y : β} (h : Paired R xs [y]) : ∃ x, xs = [x] ∧ R x y := by
  cases h with
  | cons a t => cases t; exact ⟨_, rfl, a⟩
theorem Paired.two {α β : Type} {R : α → β → Prop} {xs : List α} {y z : β} (h : Paired R xs [y, z]) : ∃ x x', xs = [x, x'] ∧ R x y ∧ R x' z := by
  cases h with
  | cons a t =>
    cases t with
    | cons b t => cases t; exact ⟨_, _, rfl, a, b⟩
theorem lenS {K : PySem.W.Frag} : CaS K (fun xs H Q => ∃ x n, xs = [x] ∧ LenV K x H n ∧ Q (.int n) H) dLen := by
  intro O cs H vs ds z Q w hp g p
  cases ds with
  | nil => cases g
  | cons d r =>
    cases r with
    | cons _ _ => cases d <;> cases g
    | nil =>
      obtain ⟨x, rfl, sx⟩ := Paired.one hp
      cases d with
      | list ds =>
        cases g
        obtain ⟨a, vs, rfl, q1, r1⟩ := sx.list
        exact ⟨_, _, rfl, .inl ⟨vs, q1.sq, rfl⟩, by rw [r1.length]; exact post_int w p⟩
      | tuple ds =>
        cases g
        obtain ⟨a, vs, rfl, q1, r1⟩ := sx.tuple
        exact ⟨_, _, rfl, .inr ⟨vs, q1, rfl⟩, by rw [r1.length]; exact post_int w p⟩
      | str y =>
        cases g
        obtain ⟨rfl, hz⟩ := sx.str
        exact ⟨_, _, rfl, ⟨hz, rfl⟩, post_int w p⟩
      | _ => cases g
theorem xe_len {e : Expr} {fa : MA} {p pos : Pos} (hg : Gl X "len") (hm : X.mg "len" = none) (ha : XA X fa [e]) (he : starEach [e] X.env = (false, eval e X.env) :: starEach [] X.env := by rfl) : XE X (mCall dLen fa) (.Call (.Name "len" p) [e] [] pos) :=
  xe_callB call_len lenS hg hm boot_len ha (he := he)

/-! items -/
def dIx (d e : D) : Option Rv := match e with
  | .int i => match d with
    | .list ds => (atI ds i).map .dat
    | .tuple ds => (atI ds i).map .dat
    | .str x => (atI x.cps.toList i).map fun c => .dat (.str ⟨#[c]⟩)
    | _ => none
  | _ => none
theorem atI_rp {K : PySem.W.Frag} {H : Hp} {vs : List V} {ds : List D} (r : RpAll K H vs ds) {i : Int} {d : D} (h : atI ds i = some d) : ∃ v, atI vs i = some v ∧ Rp K H v d := by
  unfold atI at h ⊢
  obtain ⟨j, h1, h2⟩ := Option.bind_eq_some_iff.mp h
  obtain ⟨v, h3, h4⟩ := r.get h2
  exact ⟨v, by rw [r.length, h1]; exact h3, h4⟩
theorem one_sign (c : Nat) : (⟨#[c]⟩ : Str).length ≤ sizeLine := by
  show 1 ≤ sizeLine
  rw [sizeLine_eq]; decide
theorem ixS {K : PySem.W.Frag} : OpS K (rIx K) dIx := by
  intro O cs H x y d e z Q w sx sy g p
  cases e with
  | int i =>
    cases d with
    | list ds =>
      obtain ⟨d, hd, rfl⟩ := Option.map_eq_some_iff.mp g
      obtain ⟨a, vs, rfl, q1, r1⟩ := sx.list
      obtain ⟨v, h1, h2⟩ := atI_rp r1 hd
      exact .inl ⟨a, vs, i, v, rfl, sy.int, q1.sq, h1, post_val w h2 p⟩
    | tuple ds =>
      obtain ⟨d, hd, rfl⟩ := Option.map_eq_some_iff.mp g
      obtain ⟨a, vs, rfl, q1, r1⟩ := sx.tuple
      obtain ⟨v, h1, h2⟩ := atI_rp r1 hd
      exact .inr (.inl ⟨a, vs, i, v, rfl, sy.int, q1, h1, post_val w h2 p⟩)
    | str t =>
      obtain ⟨c, hc, rfl⟩ := Option.map_eq_some_iff.mp g
      obtain ⟨rfl, hz⟩ := sx.str
      exact .inr (.inr ⟨t, i, c, rfl, sy.int, hz, hc, post_str w (one_sign c) p⟩)
    | _ => cases g
  | _ => cases d <;> cases g
theorem xe_item {a b : Expr} {fa fb : ME} {pos : Pos} (ha : XE X fa a) (hb : XE X fb b) (hp : PlainIx b := by exact fun _ _ => rfl) : XE X (mB dIx fa fb) (.Subscript a b pos) := xe_ix ix_seq ixS ha hb hp

/-! slices -/
abbrev MO := Rho → Cs → Option (Option Int × Cs)
def tXO (K : PySem.W.Frag) (f : MO) : TO := fun σ H Q => ∃ ρ O cs o cs', f ρ cs = some (o, cs') ∧ EnvOk K O H ρ σ ∧ Wd K O cs H ∧ Pst K O H cs' (Q o)
def XO (X : Cx) (f : MO) (e : Option Expr) : Prop := PO X e (tXO X.K f)
def oNone : MO := fun _ cs => some (none, cs)
def oSome (f : ME) : MO := fun ρ cs => (f ρ cs).bind fun p => (intOf p.1).map fun i => (some i, p.2)
theorem po_weak {e : Option Expr} {t t' : TO} (h : PO X e t) (w : ∀ σ H Q, t' σ H Q → t σ H Q) : PO X e t' := ⟨fun pins s σ H Q I q => h.run pins s σ H Q I (w _ _ _ q)⟩
theorem xo_none : XO X oNone none := po_weak po_none fun σ H Q ⟨ρ, O, cs, o, cs', e, en, w, p⟩ => by
  cases e
  exact p H .refl w
theorem xo_some {e : Expr} {f : ME} (h : XE X f e) : XO X (oSome f) (some e) := po_weak (po_some h) fun σ H Q ⟨ρ, O, cs, o, cs', e, en, w, p⟩ => by
  obtain ⟨⟨r, cs1⟩, h1, e⟩ := Option.bind_eq_some_iff.mp e
  obtain ⟨i, h2, e⟩ := Option.map_eq_some_iff.mp e
  cases e
  obtain rfl : r = di i := intOf_some h2
  refine ⟨ρ, O, cs, _, cs1, h1, en, w, fun v H' c' w' rv => ?_⟩
  cases (show Rp X.K (hd O H') v (.int i) from rv)
  exact ⟨i, rfl, p H' c' w'⟩
def cutD (ds : List D) (lo hi : Option Int) : List D := (ds.drop (HT.sIx ds.length 0 lo)).take (HT.sIx ds.length ds.length hi - HT.sIx ds.length 0 lo)
def dSl (d : D) (lo hi : Option Int) : Option Rv := match d with
  | .list ds => some (.fr (cutD ds lo hi))
  | .tuple ds => some (.dat (.tuple (cutD ds lo hi)))
  | .str x => some (.dat (.str (cutS x lo hi)))
  | _ => none
def rSlD (K : PySem.W.Frag) : V → Option Int → Option Int → Hp → VK → Prop := fun x lo hi H Q => rSlL K x lo hi H Q ∨ rSlA K x lo hi H Q ∨ rSlS x lo hi H Q
theorem sl_D : SlR X (rSlD X.K) := SlR.or sl_list (SlR.or sl_tupA sl_str)
theorem cut_rp {K : PySem.W.Frag} {H : Hp} {vs : List V} {ds : List D} (r : RpAll K H vs ds) (lo hi : Option Int) : RpAll K H (cutV vs lo hi) (cutD ds lo hi) := by
  unfold cutV cutD
  rw [r.length]
  exact (r.drop _).take _
def mSl (f : ME) (lo hi : MO) : ME := fun ρ cs => (f ρ cs).bind fun p => (lo ρ p.2).bind fun l => (hi ρ l.2).bind fun u => (rd (deg p.1) u.2).bind fun d => (dSl d l.1 u.1).map fun z => (z, u.2)
theorem xe_slice {e : Expr} {lo hi : Option Expr} {f : ME} {fl fh : MO} {p2 pos : Pos} (he : XE X f e) (hl : XO X fl lo) (hh : XO X fh hi) : XE X (mSl f fl fh) (.Subscript e (.Slice lo hi none p2) pos) :=
  pe_weak (pe_slice sl_D he hl hh) fun σ H Q ⟨ρ, O, cs, z, cs', e0, en, w, p⟩ => by
    obtain ⟨⟨x, cs1⟩, h1, e1⟩ := Option.bind_eq_some_iff.mp e0
    obtain ⟨⟨l, cs2⟩, h2, e2⟩ := Option.bind_eq_some_iff.mp e1
    obtain ⟨⟨u, cs3⟩, h3, e3⟩ := Option.bind_eq_some_iff.mp e2
    obtain ⟨d, h4, e4⟩ := Option.bind_eq_some_iff.mp e3
    obtain ⟨z', h5, e5⟩ := Option.map_eq_some_iff.mp e4
    clear e0 e1 e2 e3 e4
    cases e5
    refine ⟨ρ, O, cs, x, cs1, h1, en, w, fun v1 H1 c1 w1 r1 => ?_⟩
    refine ⟨ρ, O, cs1, l, cs2, h2, en.ch c1, w1, fun H2 c2 w2 => ?_⟩
    refine ⟨ρ, O, cs2, u, cs3, h3, en.ch (c1.trans c2), w2, fun H3 c3 w3 => ?_⟩
    have sx := ((r1.deg.ch c2).ch c3).sh w3 h4
    have p' := p.step ((c1.trans c2).trans c3) w3
    cases d with
    | list ds =>
      cases h5
      obtain ⟨a, vs, rfl, q1, r⟩ := sx.list
      exact .inl ⟨a, vs, rfl, q1.sq, post_list w3 (cut_rp r _ _) p'⟩
    | tuple ds =>
      cases h5
      have sx' := sx
      obtain ⟨a, vs, rfl, q1, r⟩ := sx.tuple
      refine .inr (.inl ⟨a, vs, rfl, q1, fun hw => ?_, fun _ => post_tup w3 (cut_rp r _ _) p'⟩)
      have : cutD ds l u = ds := by
        unfold cutD
        rw [← r.length, hw.1, hw.2]
        simp [r.length]
      rw [this] at p'
      rcases sx' with sx' | ⟨_, _, _, _, h, _⟩
      · exact post_val w3 sx' p'
      · cases h
    | str y =>
      cases h5
      obtain ⟨rfl, hz⟩ := sx.str
      exact .inr (.inr ⟨y, rfl, hz, post_str w3 (Nat.le_trans (cutS_length y _ _) hz) p'⟩)
    | _ => cases h5
/-- xs[::-1] -/
def dRev : D → Option Rv
  | .list ds => some (.fr ds.reverse)
  | _ => none
theorem xe_rev {e : Expr} {f : ME} {k : Nat} {p1 p2 p3 pos : Pos} (he : XE X f e) : XE X (mU dRev f) (.Subscript e (.Slice none none (some (.UnaryOp .USub (.Constant (.int 1) k p1) p2)) p3) pos) :=
  pe_weak (pe_revL he) fun σ H Q ⟨ρ, O, cs, z, cs', e0, en, w, p⟩ => by
    obtain ⟨x, d, h1, h2, h3⟩ := mU_some e0
    refine ⟨ρ, O, cs, x, cs', h1, en, w, fun v1 H1 c1 w1 r1 => ?_⟩
    cases d with
    | list ds =>
      cases h3
      obtain ⟨a, vs, rfl, q1, r⟩ := (r1.deg.sh w1 h2).list
      exact ⟨a, vs, rfl, q1.sq, post_list w1 r.reverse (p.step c1 w1)⟩
    | _ => cases h3
end
end DL
namespace DL
open PySem PySem.Spec PyProof.Rows L2

/-! ### statements -/
inductive Out where
  | nx (ρ : Rho) (cs : Cs)
  | rt (r : Rv) (cs : Cs)
  | bk (ρ : Rho) (cs : Cs)
  | ct (ρ : Rho) (cs : Cs)
/-- the first argument: how many cells there were at the def's entry -/
abbrev MS := Nat → Rho → Cs → Option Out
structure Ext (n0 : Nat) (O O' : List (Option Addr)) (H : Hp) : Prop where
  pre : ∀ i, i < n0 → O'[i]? = O[i]?
  sub : ∀ a, a ∈ live O' → a ∈ live O ∨ H a = none
theorem Ext.refl {n0 : Nat} {O : List (Option Addr)} {H : Hp} : Ext n0 O O H := ⟨fun _ _ => rfl, fun _ h => .inl h⟩
theorem Ext.trans {n0 : Nat} {O O1 O2 : List (Option Addr)} {H H1 : Hp} {K : PySem.W.Frag} {cs : Cs} (w : Wd K O cs H) {cs1 : Cs} (w1 : Wd K O1 cs1 H1) (a : Ext n0 O O1 H) (c : Ch O H H1) (b : Ext n0 O1 O2 H1) : Ext n0 O O2 H := by
  refine ⟨fun i hi => (b.pre i hi).trans (a.pre i hi), fun x hx => ?_⟩
  rcases b.sub x hx with h | h
  · exact a.sub x h
  · by_cases hl : x ∈ live O
    · exact .inl hl
    · refine .inr ?_
      cases q : H x with
      | none => rfl
      | some o =>
        have := c x o hl q
        rw [h] at this; cases this
theorem Ch.ext {n0 : Nat} {O O1 : List (Option Addr)} {H H1 H2 : Hp} (a : Ch O H H1) (e : Ext n0 O O1 H) (b : Ch O1 H1 H2) : Ch O H H2 := fun x o n h => by
  refine b x o (fun z => ?_) (a x o n h)
  rcases e.sub x z with q | q
  · exact n q
  · rw [h] at q; cases q
/-- the data's heap grows -/
def Sub (O : List (Option Addr)) (H : Hp) (O' : List (Option Addr)) (H' : Hp) : Prop := ∀ a o, hd O H a = some o → hd O' H' a = some o
theorem Sub.of {n0 : Nat} {O O' : List (Option Addr)} {H H' : Hp} (e : Ext n0 O O' H) (c : Ch O H H') : Sub O H O' H' := fun a o h => by
  obtain ⟨n, q⟩ := hd_some h
  refine hd_of (fun z => ?_) (c a o n q)
  rcases e.sub a z with r | r
  · exact n r
  · rw [q] at r; cases r
theorem Sub.trans {O O1 O2 : List (Option Addr)} {H H1 H2 : Hp} (a : Sub O H O1 H1) (b : Sub O1 H1 O2 H2) : Sub O H O2 H2 := fun x o h => b x o (a x o h)
def PostS (K : PySem.W.Frag) (n0 : Nat) (O : List (Option Addr)) (H : Hp) (out : Out) (D : Ends) : Prop :=
  match out with
  | .nx ρ' cs' => ∀ σ' O' H', Ext n0 O O' H → Ch O H H' → EnvOk K O' H' ρ' σ' → Wd K O' cs' H' → D.nx σ' H'
  | .rt r cs' => ∀ v O' H', Ext n0 O O' H → Ch O H H' → Wd K O' cs' H' → ArR K O' r v H' → D.rt v H'
  | .bk ρ' cs' => ∀ σ' O' H', Ext n0 O O' H → Ch O H H' → EnvOk K O' H' ρ' σ' → Wd K O' cs' H' → D.bk σ' H'
  | .ct ρ' cs' => ∀ σ' O' H', Ext n0 O O' H → Ch O H H' → EnvOk K O' H' ρ' σ' → Wd K O' cs' H' → D.ct σ' H'
def tS (K : PySem.W.Frag) (g : MS) : TS := fun D σ H => ∃ n0 ρ O cs out, g n0 ρ cs = some out ∧ n0 ≤ O.length ∧ EnvOk K O H ρ σ ∧ Wd K O cs H ∧ PostS K n0 O H out D
def XS (X : Cx) (g : MS) (st : Stmt) : Prop := PS X st (tS X.K g)
def XSs (X : Cx) (g : MS) (st : List Stmt) : Prop := PSs X st (tS X.K g)
theorem pss_weak {X : Cx} {e : List Stmt} {t t' : TS} (h : PSs X e t) (w : ∀ D σ H, t' D σ H → t D σ H) : PSs X e t' := ⟨fun pins s σ H D I q => h.run pins s σ H D I (w _ _ _ q)⟩
/-- a post goes on from a later state -/
theorem PostS.step {K : PySem.W.Frag} {n0 : Nat} {O O1 : List (Option Addr)} {H H1 : Hp} {out : Out} {D : Ends} {cs cs1 : Cs} (h : PostS K n0 O H out D) (w : Wd K O cs H) (w1 : Wd K O1 cs1 H1) (e : Ext n0 O O1 H) (c : Ch O H H1) : PostS K n0 O1 H1 out D := by
  cases out with
  | nx ρ' cs' => exact fun σ' O' H' e' c' en' w' => h σ' O' H' (e.trans w w1 c e') (c.ext e c') en' w'
  | rt r cs' => exact fun v O' H' e' c' w' r' => h v O' H' (e.trans w w1 c e') (c.ext e c') w' r'
  | bk ρ' cs' => exact fun σ' O' H' e' c' en' w' => h σ' O' H' (e.trans w w1 c e') (c.ext e c') en' w'
  | ct ρ' cs' => exact fun σ' O' H' e' c' en' w' => h σ' O' H' (e.trans w w1 c e') (c.ext e c') en' w'
theorem PostS.ends {K : PySem.W.Frag} {n0 : Nat} {O : List (Option Addr)} {H : Hp} {out : Out} {D D' : Ends} (h : PostS K n0 O H out D) (a : D'.rt = D.rt) (b : D'.bk = D.bk) (c : D'.ct = D.ct) (hn : ∀ ρ cs, out ≠ .nx ρ cs) : PostS K n0 O H out D' := by
  cases out with
  | nx ρ' cs' => exact absurd rfl (hn _ _)
  | rt r cs' => show ∀ v O' H', _ → _ → _ → _ → D'.rt v H'; rw [a]; exact h
  | bk ρ' cs' => show ∀ v O' H', _ → _ → _ → _ → D'.bk v H'; rw [b]; exact h
  | ct ρ' cs' => show ∀ v O' H', _ → _ → _ → _ → D'.ct v H'; rw [c]; exact h

section
variable {X : Cx}
def sNil : MS := fun _ ρ cs => some (.nx ρ cs)
def sSeq (f g : MS) : MS := fun n0 ρ cs => (f n0 ρ cs).bind fun o => match o with
  | .nx ρ1 cs1 => g n0 ρ1 cs1
  | o => some o
theorem Wd.lenO {K : PySem.W.Frag} {O : List (Option Addr)} {cs : Cs} {H : Hp} (w : Wd K O cs H) : O.length = cs.length := w.len.symm
theorem Ext.len {n0 : Nat} {O O' : List (Option Addr)} {H : Hp} (e : Ext n0 O O' H) (h : n0 ≤ O.length) : n0 ≤ O'.length := by
  cases n0 with
  | zero => exact Nat.zero_le _
  | succ n =>
    have h1 := e.pre n (Nat.lt_succ_self n)
    have h2 : O[n]? = some O[n] := List.getElem?_eq_getElem h
    rw [h2] at h1
    exact (List.getElem?_eq_some_iff.mp h1).1
theorem xs_nil : XSs X sNil [] := pss_weak pss_nil fun D σ H ⟨n0, ρ, O, cs, out, e, hn, en, w, p⟩ => by
  cases e
  exact p σ O H .refl .refl en w
theorem tSeq_of {K : PySem.W.Frag} {f g : MS} {D : Ends} {σ : L2.St} {H : Hp} (h : tS K (sSeq f g) D σ H) : tSeq (tS K f) (tS K g) D σ H := by
  obtain ⟨n0, ρ, O, cs, out, e, hn, en, w, p⟩ := h
  obtain ⟨o, h1, h2⟩ := Option.bind_eq_some_iff.mp e
  refine ⟨n0, ρ, O, cs, o, h1, hn, en, w, ?_⟩
  cases o with
  | nx ρ1 cs1 =>
    intro σ1 O1 H1 e1 c1 en1 w1
    exact ⟨n0, ρ1, O1, cs1, out, h2, e1.len hn, en1, w1, p.step w w1 e1 c1⟩
  | rt r cs1 => cases h2; exact p
  | bk r cs1 => cases h2; exact p
  | ct r cs1 => cases h2; exact p
theorem xs_cons {st : Stmt} {rest : List Stmt} {f g : MS} (h1 : XS X f st) (h2 : XSs X g rest) : XSs X (sSeq f g) (st :: rest) := pss_weak (pss_cons h1 h2) fun D σ H h => tSeq_of h
theorem xs_one {st : Stmt} {f : MS} (h1 : XS X f st) : XSs X f [st] := pss_one h1
theorem xs_pass {pos : Pos} : XS X sNil (.Pass pos) := ps_weak ps_pass fun D σ H ⟨n0, ρ, O, cs, out, e, hn, en, w, p⟩ => by
  cases e
  exact p σ O H .refl .refl en w
def sBrk : MS := fun _ ρ cs => some (.bk ρ cs)
def sCnt : MS := fun _ ρ cs => some (.ct ρ cs)
theorem xs_break {pos : Pos} : XS X sBrk (.Break pos) := ps_weak ps_break fun D σ H ⟨n0, ρ, O, cs, out, e, hn, en, w, p⟩ => by
  cases e
  exact p σ O H .refl .refl en w
theorem xs_continue {pos : Pos} : XS X sCnt (.Continue pos) := ps_weak ps_continue fun D σ H ⟨n0, ρ, O, cs, out, e, hn, en, w, p⟩ => by
  cases e
  exact p σ O H .refl .refl en w
/-- never reached -/
def sNev : MS := fun _ _ _ => none
theorem xs_never {st : Stmt} : XS X sNev st := ps_weak ps_never fun D σ H ⟨n0, ρ, O, cs, out, e, _⟩ => by cases e
theorem xss_never {st : List Stmt} : XSs X sNev st := pss_weak pss_never fun D σ H ⟨n0, ρ, O, cs, out, e, _⟩ => by cases e
/-- an expression dropped -/
def sExpr (f : ME) : MS := fun _ ρ cs => (f ρ cs).map fun p => .nx ρ p.2
theorem xs_expr {e : Expr} {f : ME} {pos : Pos} (he : XE X f e) (hs : swapsWith e none pos.line X.env = pure false := by rfl) : XS X (sExpr f) (.Expr e pos) :=
  ps_weak (ps_expr he hs) fun D σ H ⟨n0, ρ, O, cs, out, e0, hn, en, w, p⟩ => by
    obtain ⟨⟨r, cs1⟩, h1, h2⟩ := Option.map_eq_some_iff.mp e0
    subst h2
    exact ⟨ρ, O, cs, r, cs1, h1, en, w, fun v H' c w' _ => p σ O H' .refl c (en.ch c) w'⟩
/-- a new owned cell -/
theorem ext_new {K : PySem.W.Frag} {n0 : Nat} {O : List (Option Addr)} {H : Hp} {p : Addr} (hn : n0 ≤ O.length) (hp : H p = none) : Ext n0 O (O ++ [some p]) H := by
  refine ⟨fun i hi => List.getElem?_append_left (by omega), fun a ha => ?_⟩
  obtain ⟨i, q⟩ := mem_live.mp ha
  by_cases hi : i < O.length
  · rw [List.getElem?_append_left hi] at q
    exact .inl (mem_live.mpr ⟨i, q⟩)
  · rw [List.getElem?_append_right (by omega)] at q
    have h0 : i - O.length = 0 := by
      have := (List.getElem?_eq_some_iff.mp q).1
      simp at this; omega
    rw [h0] at q
    simp at q
    subst q
    exact .inr hp
theorem EnvOk.ext {K : PySem.W.Frag} {n0 : Nat} {O : List (Option Addr)} {H H' : Hp} {ρ : Rho} {σ : L2.St} {p : Addr} (en : EnvOk K O H ρ σ) (hp : H p = none) (c : Ch O H H') : EnvOk K (O ++ [some p]) H' ρ σ := by
  have sb : Sub O H (O ++ [some p]) H' := Sub.of (n0 := 0) (ext_new (K := K) (Nat.zero_le _) hp) c
  refine ⟨en.len, fun i r h => ?_⟩
  obtain ⟨v, h1, h2⟩ := en.slot i r h
  refine ⟨v, h1, ?_⟩
  cases r with
  | dat d => exact Rp.mono sb h2
  | own k =>
    obtain ⟨a, e, q⟩ := h2
    exact ⟨a, e, by rw [List.getElem?_append_left (List.getElem?_eq_some_iff.mp q).1]; exact q⟩
  | fr c => exact h2
  | exn nm d => exact ExAt.mono sb h2
/-- name = value: data -/
def sSet (i : Nat) (f : ME) : MS := fun _ ρ cs => (f ρ cs).bind fun p => match deg p.1 with
  | .dat d => some (.nx (ρ.set i (some (.dat d))) p.2)
  | _ => none
/-- name = a fresh list, to be changed in place -/
def sOwn (i : Nat) (f : ME) : MS := fun _ ρ cs => (f ρ cs).bind fun p => match p.1 with
  | .fr c => some (.nx (ρ.set i (some (.own p.2.length))) (p.2 ++ [some c]))
  | _ => none
theorem tSet_of {K : PySem.W.Frag} {i : Nat} {f : ME} {D : Ends} {σ : L2.St} {H : Hp} (h : tS K (sSet i f) D σ H) : tAsg (tX K f) (gName i) D σ H := by
  obtain ⟨n0, ρ, O, cs, out, e0, hn, en, w, p⟩ := h
  obtain ⟨⟨r, cs1⟩, h1, h2⟩ := Option.bind_eq_some_iff.mp e0
  refine ⟨ρ, O, cs, r, cs1, h1, en, w, fun v H' c w' rv => ?_⟩
  have rr := rv.deg
  dsimp only at h2
  split at h2
  · rename_i d hd
    cases h2
    rw [hd] at rr
    exact p _ O H' .refl c ((en.ch c).set i rr) w'
  · cases h2
theorem tOwn_of {K : PySem.W.Frag} {i : Nat} {f : ME} {D : Ends} {σ : L2.St} {H : Hp} (h : tS K (sOwn i f) D σ H) : tAsg (tX K f) (gName i) D σ H := by
  obtain ⟨n0, ρ, O, cs, out, e0, hn, en, w, p⟩ := h
  obtain ⟨⟨r, cs1⟩, h1, h2⟩ := Option.bind_eq_some_iff.mp e0
  refine ⟨ρ, O, cs, r, cs1, h1, en, w, fun v H' c w' rv => ?_⟩
  cases r with
  | fr l =>
    cases h2
    obtain ⟨q, rfl, hq, w2⟩ := rv
    refine p _ (O ++ [some q]) H' (ext_new (K := K) hn hq) c ((en.ext (n0 := 0) hq c).set i ⟨q, rfl, ?_⟩) w2
    show (O ++ [some q])[cs1.length]? = some (some q)
    rw [w'.len]; simp
  | _ => cases h2
theorem xs_set {i : Nat} {x : Str} {e : Expr} {f : ME} {pos pos' : Pos} (hN : X.N.Nodup) (hi : X.N[i]? = some x) (hx : Loc X.env.scope x) (he : XE X f e) (hs : swapsWith e (some (.Name x pos')) pos.line X.env = pure false := by rfl)
    (hf : X.fn x = true ∨ X.env.scope.names.lookup x = some .local := by first | exact .inl rfl | exact .inr rfl) : XS X (sSet i f) (.Assign [.Name x pos'] e pos) := ps_weak (ps_set hN hi hx he hs hf) fun D σ H h => tSet_of h
theorem xs_own {i : Nat} {x : Str} {e : Expr} {f : ME} {pos pos' : Pos} (hN : X.N.Nodup) (hi : X.N[i]? = some x) (hx : Loc X.env.scope x) (he : XE X f e) (hs : swapsWith e (some (.Name x pos')) pos.line X.env = pure false := by rfl)
    (hf : X.fn x = true ∨ X.env.scope.names.lookup x = some .local := by first | exact .inl rfl | exact .inr rfl) : XS X (sOwn i f) (.Assign [.Name x pos'] e pos) := ps_weak (ps_set hN hi hx he hs hf) fun D σ H h => tOwn_of h
/-- return -/
def sRet (f : ME) : MS := fun n0 ρ cs => (f ρ cs).bind fun p => match p.1 with
  | .dat d => some (.rt (.dat d) p.2)
  | .fr c => some (.rt (.own p.2.length) (p.2 ++ [some c]))
  | .own k => if n0 ≤ k then some (.rt (.own k) p.2) else none
  | .exn _ _ => none
theorem xs_ret {e : Expr} {f : ME} {pos : Pos} (he : XE X f e) : XS X (sRet f) (.Return (some e) pos) :=
  ps_weak (ps_ret he) fun D σ H ⟨n0, ρ, O, cs, out, e0, hn, en, w, p⟩ => by
    obtain ⟨⟨r, cs1⟩, h1, h2⟩ := Option.bind_eq_some_iff.mp e0
    refine ⟨ρ, O, cs, r, cs1, h1, en, w, fun v H' c w' rv => ?_⟩
    cases r with
    | dat d => cases h2; exact p v O H' .refl c w' rv
    | exn nm d => cases h2
    | own k =>
      obtain ⟨_, h3⟩ := ite_some h2
      subst h3
      exact p v O H' .refl c w' rv
    | fr l =>
      cases h2
      obtain ⟨q, rfl, hq, w2⟩ := rv
      refine p _ (O ++ [some q]) H' (ext_new (K := X.K) hn hq) c w2 ⟨q, rfl, ?_⟩
      show (O ++ [some q])[cs1.length]? = some (some q)
      rw [w'.len]; simp
def sRetN : MS := fun _ _ cs => some (.rt (.dat .none) cs)
theorem xs_retN {pos : Pos} : XS X sRetN (.Return none pos) := ps_weak ps_retN fun D σ H ⟨n0, ρ, O, cs, out, e0, hn, en, w, p⟩ => by
  cases e0
  exact p .non O H .refl .refl w .non
/-- if -/
def sIf (c : MT) (f g : MS) : MS := fun n0 ρ cs => (c ρ cs).bind fun p => if p.1 = true then f n0 ρ p.2 else g n0 ρ p.2
theorem xs_if {c : Expr} {a b : List Stmt} {t : MT} {f g : MS} {pos : Pos} (hc : XT X t c) (ha : XSs X f a) (hb : XSs X g b) : XS X (sIf t f g) (.If c a b pos) :=
  ps_weak (ps_if hc ha hb) fun D σ H ⟨n0, ρ, O, cs, out, e0, hn, en, w, p⟩ => by
    obtain ⟨⟨k, cs1⟩, h1, h2⟩ := Option.bind_eq_some_iff.mp e0
    refine ⟨ρ, O, cs, k, cs1, h1, en, w, fun H1 c1 w1 => ?_⟩
    cases k with
    | true => exact ⟨n0, ρ, O, cs1, out, h2, hn, en.ch c1, w1, p.step w w1 .refl c1⟩
    | false => exact ⟨n0, ρ, O, cs1, out, h2, hn, en.ch c1, w1, p.step w w1 .refl c1⟩
/-- an owned cell is given up: data from now on -/
def sFrz (i : Nat) (f : MS) : MS := fun n0 ρ cs => match ρ[i]? with
  | some (some (.own k)) => if n0 ≤ k then (match cs[k]? with
    | some (some c) => f n0 ((ρ.map fun r => match r with
        | some (.own j) => if j = k then none else some (.own j)
        | r => r).set i (some (.dat (.list c)))) (cs.set k none)
    | _ => none) else none
  | _ => none
end
end DL
namespace DL
open PySem PySem.Spec PyProof.Rows L2
section
variable {X : Cx}
theorem live_set {O : List (Option Addr)} {k : Nat} {a : Addr} (h : a ∈ live (O.set k none)) : a ∈ live O := by
  obtain ⟨i, q⟩ := mem_live.mp h
  refine mem_live.mpr ⟨i, ?_⟩
  by_cases e : k = i
  · subst e
    by_cases hk : k < O.length
    · rw [List.getElem?_set_self hk] at q; cases q
    · rw [List.getElem?_eq_none (by simp; omega)] at q; cases q
  · rw [List.getElem?_set_ne e] at q
    exact q
theorem Wd.freeze {K : PySem.W.Frag} {O : List (Option Addr)} {cs : Cs} {H : Hp} (w : Wd K O cs H) {k : Nat} : Wd K (O.set k none) (cs.set k none) H := by
  have sb : ∀ a o, hd O H a = some o → hd (O.set k none) H a = some o := fun a o h => by
    obtain ⟨n, e⟩ := hd_some h
    exact hd_of (fun z => n (live_set z)) e
  have get : ∀ {i : Nat} {x : Addr}, (O.set k none)[i]? = some (some x) → O[i]? = some (some x) ∧ k ≠ i := fun {i x} q => by
    by_cases e : k = i
    · subst e
      by_cases hk : k < O.length
      · rw [List.getElem?_set_self hk] at q; cases q
      · rw [List.getElem?_eq_none (by simp; omega)] at q; cases q
    · rw [List.getElem?_set_ne e] at q
      exact ⟨q, e⟩
  refine ⟨by simp [w.len], fun i j a h1 h2 => w.inj i j a (get h1).1 (get h2).1, fun i a h => ?_, fun i h => ?_⟩
  · obtain ⟨h1, ne⟩ := get h
    obtain ⟨c, vs, h2, h3, h4⟩ := w.cell i a h1
    exact ⟨c, vs, by rw [List.getElem?_set_ne ne]; exact h2, h3, h4.mono sb⟩
  · by_cases e : k = i
    · subst e
      have hk : k < cs.length := by
        have := (List.getElem?_eq_some_iff.mp h).1
        rw [w.len]; simpa using this
      rw [List.getElem?_set_self hk]
    · rw [List.getElem?_set_ne e] at h ⊢
      exact w.ded i h
theorem xs_frz {st : Stmt} {i : Nat} {f : MS} (h : XS X f st) : XS X (sFrz i f) st := ps_weak h fun D σ H ⟨n0, ρ, O, cs, out, e0, hn, en, w, p⟩ => by
  unfold sFrz at e0
  split at e0
  · rename_i k hk
    split at e0
    · rename_i hnk
      split at e0
      · rename_i c hc
        obtain ⟨a, vs, h1, h2, h3⟩ := w.of hc
        have wf : Wd X.K (O.set k none) (cs.set k none) H := w.freeze
        have sb : ∀ b o, hd O H b = some o → hd (O.set k none) H b = some o := fun b o hb => by
          obtain ⟨n, e⟩ := hd_some hb
          exact hd_of (fun z => n (live_set z)) e
        have na : a ∉ live (O.set k none) := fun z => by
          obtain ⟨j, q⟩ := mem_live.mp z
          by_cases ej : k = j
          · subst ej
            rw [List.getElem?_set_self (List.getElem?_eq_some_iff.mp h1).1] at q; cases q
          · rw [List.getElem?_set_ne ej] at q
            exact ej (w.inj k j a h1 q)
        have rp : Rp X.K (hd (O.set k none) H) (.ref a) (.list c) := .lst (.inl (.inl (hd_of na h2))) (h3.mono sb)
        have ex : Ext n0 O (O.set k none) H := ⟨fun j hj => List.getElem?_set_ne (by omega), fun b hb => .inl (live_set hb)⟩
        refine ⟨n0, _, O.set k none, cs.set k none, out, e0, by simpa using hn, ⟨by simp [en.len], fun j r hj => ?_⟩, wf, p.step w wf ex .refl⟩
        by_cases e : i = j
        · subst e
          have hi : i < ρ.length := (List.getElem?_eq_some_iff.mp hk).1
          rw [List.getElem?_set_self (by simpa using hi)] at hj
          cases hj
          obtain ⟨v, q1, b, rfl, q2⟩ := en.slot i _ hk
          rw [h1] at q2; cases q2
          exact ⟨_, q1, rp⟩
        · rw [List.getElem?_set_ne e, List.getElem?_map] at hj
          cases q : ρ[j]? with
          | none => rw [q] at hj; cases hj
          | some r0 =>
            rw [q] at hj
            cases r0 with
            | none => cases hj
            | some r1 =>
              cases r1 with
              | dat d =>
                cases hj
                obtain ⟨v, q1, q2⟩ := en.slot j _ q
                exact ⟨v, q1, Rp.mono sb q2⟩
              | fr l =>
                obtain ⟨v, q1, q2⟩ := en.slot j _ q
                exact q2.elim
              | exn nm d =>
                cases hj
                obtain ⟨v, q1, q2⟩ := en.slot j _ q
                exact ⟨v, q1, ExAt.mono sb q2⟩
              | own l =>
                obtain ⟨v, q1, b, q2, q3⟩ := en.slot j _ q
                have hj' : (if l = k then none else some (Rv.own l)) = some r := by
                  have := Option.some.inj hj
                  exact this
                split at hj'
                · cases hj'
                · rename_i ne
                  cases hj'
                  exact ⟨v, q1, b, q2, by rw [List.getElem?_set_ne (Ne.symm ne)]; exact q3⟩
      · cases e0
    · cases e0
  · cases e0

/-! targets -/
abbrev MG := D → Rho → Option Rho
def tG (K : PySem.W.Frag) (vs : List Nat) (g : MG) : TG := fun v σ H Q => ∃ ρ O cs d ρ', g d ρ = some ρ' ∧ Rp K (hd O H) v d ∧ EnvOk K O H ρ σ ∧ Wd K O cs H ∧ ∀ σ', EnvOk K O H ρ' σ' → wipe σ' vs = wipe σ vs → Q σ' H
def XG (X : Cx) (vs : List Nat) (g : MG) (e : Expr) : Prop := PG X e (tG X.K vs g)
theorem wipe_get (σ : L2.St) (j : Nat) : ∀ vs : List Nat, (wipe σ vs)[j]? = if j ∈ vs ∧ j < σ.length then some none else σ[j]?
  | [] => by simp [wipe]
  | v :: vs => by
    have ih := wipe_get σ j vs
    unfold wipe
    rw [List.getElem?_set, ih, wipe_length]
    by_cases h : v = j
    · subst h
      by_cases hj : v < σ.length <;> simp [hj]
    · have h' : j ≠ v := fun e => h e.symm
      rw [if_neg h]
      simp [h']
theorem wipe_set {σ : L2.St} {i : Nat} {x : Option V} {vs : List Nat} (h : i ∈ vs) : wipe (σ.set i x) vs = wipe σ vs := by
  apply List.ext_getElem?
  intro j
  rw [wipe_get, wipe_get, List.length_set]
  by_cases c : j ∈ vs ∧ j < σ.length
  · rw [if_pos c, if_pos c]
  · rw [if_neg c, if_neg c]
    by_cases e : i = j
    · subst e
      have hi : ¬ i < σ.length := fun z => c ⟨h, z⟩
      rw [List.getElem?_eq_none (by simp; omega), List.getElem?_eq_none (by omega)]
    · rw [List.getElem?_set_ne e]
def gNm (i : Nat) : MG := fun d ρ => some (ρ.set i (some (.dat d)))
theorem pg_weak {e : Expr} {t t' : TG} (h : PG X e t) (w : ∀ v σ H Q, t' v σ H Q → t v σ H Q) : PG X e t' := ⟨fun pins s σ H v u Q I r q => h.run pins s σ H v u Q I r (w _ _ _ _ q)⟩
theorem xg_name {i : Nat} {x : Str} {pos : Pos} {vs : List Nat} (hN : X.N.Nodup) (hi : X.N[i]? = some x) (hx : Loc X.env.scope x) (hm : i ∈ vs := by simp) (hf : X.fn x = true ∨ X.env.scope.names.lookup x = some .local := by first | exact .inl rfl | exact .inr rfl) : XG X vs (gNm i) (.Name x pos) :=
  pg_weak (pg_name hN hi hx hf) fun v σ H Q ⟨ρ, O, cs, d, ρ', e, r, en, w, p⟩ => by
    cases e
    exact p _ (en.set i (r := .dat d) r) (wipe_set hm)
abbrev MGs := List D → Rho → Option Rho
def tGs (K : PySem.W.Frag) (ws : List Nat) (g : MGs) : TGs := fun vs σ H Q => ∃ ρ O cs ds ρ', g ds ρ = some ρ' ∧ RpAll K (hd O H) vs ds ∧ EnvOk K O H ρ σ ∧ Wd K O cs H ∧ ∀ σ', EnvOk K O H ρ' σ' → wipe σ' ws = wipe σ ws → Q σ' H
def XGs (X : Cx) (ws : List Nat) (g : MGs) (es : List Expr) : Prop := PGs X es (tGs X.K ws g)
theorem pgs_weak {e : List Expr} {t t' : TGs} (h : PGs X e t) (w : ∀ v σ H Q, t' v σ H Q → t v σ H Q) : PGs X e t' := ⟨fun pins s σ H v u Q I r q => h.run pins s σ H v u Q I r (w _ _ _ _ q)⟩
def gsNil : MGs := fun ds ρ => match ds with
  | [] => some ρ
  | _ => none
def gsCons (g : MG) (h : MGs) : MGs := fun ds ρ => match ds with
  | d :: r => (g d ρ).bind fun ρ1 => h r ρ1
  | [] => none
theorem xgs_nil {ws : List Nat} : XGs X ws gsNil [] := pgs_weak pgs_nil fun vs σ H Q ⟨ρ, O, cs, ds, ρ', e, r, en, w, p⟩ => by
  cases ds with
  | nil =>
    cases e
    cases r
    exact ⟨rfl, p σ en rfl⟩
  | cons _ _ => cases e
theorem xgs_cons {e : Expr} {es : List Expr} {g : MG} {h : MGs} {ws : List Nat} (h1 : XG X ws g e) (h2 : XGs X ws h es) (hs : (assignEach (e :: es) X.env).map (·.2) = assign e X.env :: (assignEach es X.env).map (·.2) := by rfl) : XGs X ws (gsCons g h) (e :: es) :=
  pgs_weak (pgs_cons h1 h2 hs) fun vs σ H Q ⟨ρ, O, cs, ds, ρ', e0, r, en, w, p⟩ => by
    cases ds with
    | nil => cases e0
    | cons d ds =>
      cases r with
      | cons r1 r2 =>
        obtain ⟨ρ1, h3, h4⟩ := Option.bind_eq_some_iff.mp e0
        exact ⟨_, _, rfl, ρ, O, cs, d, ρ1, h3, r1, en, w, fun σ1 en1 q1 => ⟨ρ1, O, cs, ds, ρ', h4, r2, en1, w, fun σ2 en2 q2 => p σ2 en2 (q2.trans q1)⟩⟩
def gTp (n : Nat) (g : MGs) : MG := fun d ρ => match d with
  | .tuple ds => if ds.length = n then g ds ρ else none
  | _ => none
theorem xg_tup {es : List Expr} {k : Nat} {g : MGs} {n : Nat} {pos : Pos} {ws : List Nat} (hc : X.calm = true) (h : XGs X ws g es) (hn : (assignEach es X.env).length = n := by rfl) (hst : (assignEach es X.env).findIdx? (·.1) = none := by rfl) : XG X ws (gTp n g) (.Tuple es k pos) :=
  pg_weak (pg_tup hc h hn hst) fun v σ H Q ⟨ρ, O, cs, d, ρ', e, r, en, w, p⟩ => by
    cases d with
    | tuple ds =>
      have e' : (if ds.length = n then g ds ρ else none) = some ρ' := e
      by_cases hl : ds.length = n
      · rw [if_pos hl] at e'
        cases r with
        | tup q rr => exact ⟨_, _, rfl, sqT_mono hd_le q, by rw [rr.length]; exact hl, ρ, O, cs, ds, ρ', e', rr, en, w, p⟩
      · rw [if_neg hl] at e'; cases e'
    | _ => cases e
/-- target = value, any target of names -/
def sAsg (f : ME) (g : MG) : MS := fun _ ρ cs => (f ρ cs).bind fun p => match deg p.1 with
  | .dat d => (g d ρ).map fun ρ' => .nx ρ' p.2
  | _ => none
theorem xs_asg {tg e : Expr} {f : ME} {g : MG} {pos : Pos} {ws : List Nat} (he : XE X f e) (hg : XG X ws g tg) (hs : swapsWithSole [tg] e pos.line X.env = pure false := by rfl) (hw : swappedStores [tg] e X.env = pure none := by rfl)
    (h1 : (assignEach [tg] X.env).map (·.2) = [assign tg X.env] := by rfl) : XS X (sAsg f g) (.Assign [tg] e pos) :=
  ps_weak (ps_asg he hg hs hw h1) fun D σ H ⟨n0, ρ, O, cs, out, e0, hn, en, w, p⟩ => by
    obtain ⟨⟨r, cs1⟩, h1, h2⟩ := Option.bind_eq_some_iff.mp e0
    refine ⟨ρ, O, cs, r, cs1, h1, en, w, fun v H' c w' rv => ?_⟩
    have rr := rv.deg
    dsimp only at h2
    split at h2
    · rename_i d hd'
      obtain ⟨ρ', h3, h4⟩ := Option.map_eq_some_iff.mp h2
      subst h4
      rw [hd'] at rr
      exact ⟨ρ, O, cs1, d, ρ', h3, rr, en.ch c, w', fun σ' en' _ => p σ' O H' .refl c en' w'⟩
    · cases h2
/-- a, b = x, y -/
def sPar (i j : Nat) (fa : MA) : MS := fun _ ρ cs => (fa ρ cs).bind fun p => match p.1 with
  | [.dat d, .dat e] => some (.nx ((ρ.set i (some (.dat d))).set j (some (.dat e))) p.2)
  | _ => none
theorem xs_par {i j : Nat} {x y : Str} {a b : Expr} {fa : MA} {px py pt pos : Pos} {kt k2 pt2} (hc : X.calm = true) (hN : X.N.Nodup) (hi : X.N[i]? = some x) (hj : X.N[j]? = some y) (hij : i ≠ j)
    (hx : X.env.scope.names.lookup x = some .local) (hy : X.env.scope.names.lookup y = some .local) (ha : XA X fa [a, b])
    (hw : swappedStores [.Tuple [.Name x px, .Name y py] kt pt] (.Tuple [a, b] k2 pt2) X.env = pure (some [x, y]) := by rfl)
    (hs : swapsWithSole [.Tuple [.Name x px, .Name y py] kt pt] (.Tuple [a, b] k2 pt2) pos.line X.env = pure false := by rfl) :
    XS X (sPar i j fa) (.Assign [.Tuple [.Name x px, .Name y py] kt pt] (.Tuple [a, b] k2 pt2) pos) :=
  ps_weak (ps_par hc hN hi hj hij hx hy ha hw hs) fun D σ H ⟨n0, ρ, O, cs, out, e0, hn, en, w, p⟩ => by
    obtain ⟨⟨rs, cs1⟩, h1, h2⟩ := Option.bind_eq_some_iff.mp e0
    refine ⟨ρ, O, cs, rs, cs1, h1, en, w, fun vs H' c w' ra => ?_⟩
    dsimp only at h2
    split at h2
    · rename_i _ d e
      cases h2
      match vs, ra with
      | [v, u], ra => exact ⟨v, u, rfl, p _ O H' .refl c (((en.ch c).set i (r := .dat d) ra.1).set j (r := .dat e) ra.2.1) w'⟩
      | [], ra => exact ra.elim
      | [_], ra => exact ra.2.elim
      | _ :: _ :: _ :: _, ra => exact ra.2.2.elim
    · cases h2
/-! changes in place -/
/-- what is changed: a name's owned cell -/
def cellOf (r : Option (Option Rv)) : Option Nat := match r with
  | some (some (.own k)) => some k
  | _ => none
theorem cellOf_some {r : Option (Option Rv)} {k : Nat} (h : cellOf r = some k) : r = some (some (.own k)) := by
  match r, h with
  | some (some (.own _)), h => cases h; rfl
theorem Wd.write {K : PySem.W.Frag} {O : List (Option Addr)} {cs : Cs} {H : Hp} (w : Wd K O cs H) {k : Nat} {a : Addr} {vs : List V} {c : List D} (h : O[k]? = some (some a)) (r : RpAll K (hd O H) vs c) : Wd K O (cs.set k (some c)) (upd H a (.lst vs)) ∧ Ch O H (upd H a (.lst vs)) := by
  have la : a ∈ live O := mem_live.mpr ⟨k, h⟩
  have ch : Ch O H (upd H a (.lst vs)) := fun b o n e => by
    rw [upd_ne (fun z => n (by rw [z]; exact la))]; exact e
  have hk : k < cs.length := by rw [w.len]; exact (List.getElem?_eq_some_iff.mp h).1
  refine ⟨⟨by simp [w.len], w.inj, fun i b hb => ?_, fun i hi => ?_⟩, ch⟩
  · by_cases e : i = k
    · subst e
      rw [h] at hb; cases hb
      exact ⟨c, vs, by rw [List.getElem?_set_self hk], upd_same, r.mono ch.data⟩
    · obtain ⟨c', vs', h1, h2, h3⟩ := w.cell i b hb
      have nb : b ≠ a := fun z => e (w.inj i k b hb (by rw [z]; exact h))
      exact ⟨c', vs', by rw [List.getElem?_set_ne (Ne.symm e)]; exact h1, by rw [upd_ne nb]; exact h2, h3.mono ch.data⟩
  · by_cases e : i = k
    · subst e
      rw [h] at hi; cases hi
    · rw [List.getElem?_set_ne (Ne.symm e)]; exact w.ded i hi
/-- x[i] = e, x an owned cell -/
def sPut (x : Nat) (fi fe : ME) : MS := fun _ ρ cs => (fe ρ cs).bind fun p => (cellOf ρ[x]?).bind fun k => (fi ρ p.2).bind fun q => (intOf q.1).bind fun i => match deg p.1, q.2[k]? with
  | .dat d, some (some c) => (ixN c.length i).map fun j => .nx ρ (q.2.set k (some (c.set j d)))
  | _, _ => none
theorem xs_put {x : Nat} {nm : Str} {i e : Expr} {fi fe : ME} {p1 p2 pos : Pos} (hN : X.N[x]? = some nm) (hv : Vis X.env.scope nm) (hi : XE X fi i) (he : XE X fe e)
    (ha : ∀ v, assign (.Subscript (.Name nm p1) i p2) X.env v = (do
      let ov ← holding [v] (eval (.Name nm p1) X.env)
      let iv ← holding [v, ov] (eval i X.env)
      standAt p2
      holding [v, ov, iv] (setItem ov iv v)
      release [v, ov, iv] []) := by intro _; rfl)
    (hs : swapsWithSole [.Subscript (.Name nm p1) i p2] e pos.line X.env = pure false := by rfl) (hw : swappedStores [.Subscript (.Name nm p1) i p2] e X.env = pure none := by rfl)
    (h1 : (assignEach [.Subscript (.Name nm p1) i p2] X.env).map (·.2) = [assign (.Subscript (.Name nm p1) i p2) X.env] := by rfl)
    (hd : (nm == ("__debug__" : Str)) = false := by decide) (hcd : (nm == ("__classdict__" : Str)) = false := by decide) :
    XS X (sPut x fi fe) (.Assign [.Subscript (.Name nm p1) i p2] e pos) :=
  ps_weak (ps_asg he (pg_sub (pe_var hN hv hd hcd) hi set_list ha) hs hw h1) fun D σ H ⟨n0, ρ, O, cs, out, e0, hn, en, w, p⟩ => by
    obtain ⟨⟨r, cs1⟩, g1, e1⟩ := Option.bind_eq_some_iff.mp e0
    obtain ⟨k, g2, e2⟩ := Option.bind_eq_some_iff.mp e1
    obtain ⟨⟨y, cs2⟩, g3, e3⟩ := Option.bind_eq_some_iff.mp e2
    obtain ⟨m, g4, e4⟩ := Option.bind_eq_some_iff.mp e3
    clear e0 e1 e2 e3
    obtain rfl : y = di m := intOf_some g4
    refine ⟨ρ, O, cs, r, cs1, g1, en, w, fun v H1 c1 w1 rv => ?_⟩
    obtain ⟨u, q1, a, rfl, q2⟩ := en.slot x _ (cellOf_some g2)
    refine ⟨_, q1, ρ, O, cs1, _, cs2, g3, en.ch c1, w1, fun v2 H2 c2 w2 rv2 => ?_⟩
    have rr := rv.deg.ch c2
    dsimp only at e4
    split at e4
    · rename_i d c hd' hc'
      obtain ⟨j, g5, e5⟩ := Option.map_eq_some_iff.mp e4
      subst e5
      rw [hd'] at rr
      obtain ⟨c', vs, h5, h6, h7⟩ := w2.cell k a q2
      rw [hc'] at h5; cases h5
      cases (show Rp X.K (DL.hd O H2) v2 (.int m) from rv2)
      obtain ⟨w3, c3⟩ := w2.write q2 (h7.set rr j)
      exact ⟨a, vs, m, j, rfl, rfl, h6, by rw [h7.length]; exact g5, p σ O _ .refl ((c1.trans c2).trans c3) (en.ch ((c1.trans c2).trans c3)) w3⟩
    · cases e4
/-- x.append(e) -/
def sApp (x : Nat) (fe : ME) : MS := fun _ ρ cs => (cellOf ρ[x]?).bind fun k => (fe ρ cs).bind fun p => match deg p.1, p.2[k]? with
  | .dat d, some (some c) => if c.length < sizeLine then some (.nx ρ (p.2.set k (some (c ++ [d])))) else none
  | _, _ => none
end
end DL
namespace DL
open PySem PySem.Spec PyProof.Rows L2
section
variable {X : Cx}
/-- a rule that runs a statement from the environment: x.append(e) -/
theorem xs_app {x : Nat} {nm : Str} {e : Expr} {fe : ME} {p1 apos cpos pos : Pos} (hN : X.N[x]? = some nm) (hv : Vis X.env.scope nm) (he : XE X fe e)
    (hs : starEach [e] X.env = (false, eval e X.env) :: starEach [] X.env := by rfl)
    (hbase : attributeBase (.Name nm p1) "append" X.env (eval (.Name nm p1) X.env) = eval (.Name nm p1) X.env := by rfl)
    (hfew : ((backTo cpos (starEach [e] X.env)).all (fun x => !x.1) && (backToKw cpos (keywordEach [] X.env)).all (fun x => x.1.isSome)
      && decide ([e].length + ([] : List Keyword).length + (if ([] : List Keyword).isEmpty then 0 else 1) < 30)) = true := by rfl)
    (hline : (apos.endLine == cpos.line) = true := by rfl) (hplain : (backTo cpos (starEach [] X.env)).any (·.1) = false := by rfl)
    (hsw : swapsWith (.Call (.Attribute (.Name nm p1) "append" apos) [e] [] cpos) none pos.line X.env = pure false := by rfl)
    (hd : (nm == ("__debug__" : Str)) = false := by decide) (hcd : (nm == ("__classdict__" : Str)) = false := by decide) :
    XS X (sApp x fe) (.Expr (.Call (.Attribute (.Name nm p1) "append" apos) [e] [] cpos) pos) :=
  ps_weak (ps_expr (pe_bm PySem.F.plainAttrs_list PySem.F.slot_list_append PySem.F.type_list_append mt_append (pe_var hN hv hd hcd) (pa_cons he pa_nil hs) hbase hfew hline hs hplain) hsw) fun D σ H ⟨n0, ρ, O, cs, out, e0, hn, en, w, p⟩ => by
    obtain ⟨k, g2, e2⟩ := Option.bind_eq_some_iff.mp e0
    obtain ⟨⟨r, cs1⟩, g3, e3⟩ := Option.bind_eq_some_iff.mp e2
    clear e0 e2
    obtain ⟨u, q1, a, rfl, q2⟩ := en.slot x _ (cellOf_some g2)
    obtain ⟨c0, vs0, h0, h1, h2⟩ := w.cell k a q2
    refine ⟨_, q1, .inl ⟨rfl, _, .inl (.inl h1)⟩, ρ, O, cs, r, cs1, g3, en, w, fun v H1 c1 w1 rv => ?_⟩
    have rr := rv.deg
    dsimp only at e3
    split at e3
    · rename_i d c hd' hc'
      obtain ⟨hz, rfl⟩ := ite_some e3
      rw [hd'] at rr
      obtain ⟨c', vs, h5, h6, h7⟩ := w1.cell k a q2
      rw [hc'] at h5; cases h5
      obtain ⟨w3, c3⟩ := w1.write q2 (h7.append (.cons (show Rp X.K (DL.hd O H1) v d from rr) .nil))
      exact ⟨a, vs, v, rfl, rfl, h6, by rw [h7.length]; exact hz, p σ O _ .refl (c1.trans c3) (en.ch (c1.trans c3)) w3⟩
    · cases e3

/-! ### what is walked -/
abbrev MI := Rho → Cs → Option (List D × Cs)
def Walk (K : PySem.W.Frag) (O : List (Option Addr)) (H1 : Hp) (J : It) (ds : List D) : Prop := ∀ (i : Nat) (O2 : List (Option Addr)) (cs2 : Cs) (H2 : Hp), Sub O H1 O2 H2 → Wd K O2 cs2 H2 →
  (ds.length ≤ i → J.stop i H2) ∧ ∀ d, ds[i]? = some d → J.go i H2 ∧ ∀ x H3, J.yld i H2 x H3 → Ch O2 H2 H3 ∧ Wd K O2 cs2 H3 ∧ Rp K (hd O2 H3) x d
def tI (K : PySem.W.Frag) (f : MI) : TI := fun σ H R => ∃ ρ O cs ds cs', f ρ cs = some (ds, cs') ∧ EnvOk K O H ρ σ ∧ Wd K O cs H ∧ ∀ J H', Ch O H H' → Wd K O cs' H' → Walk K O H' J ds → R J H'
def XI (X : Cx) (f : MI) (tg iter : Expr) : Prop := PI X tg iter (tI X.K f)
theorem pi_weak {tg iter : Expr} {t t' : TI} (h : PI X tg iter t) (w : ∀ σ H R, t' σ H R → t σ H R) : PI X tg iter t' := ⟨fun pins s σ H R I q => h.run pins s σ H R I (w _ _ _ q)⟩
def loopM (g : MG) (b : MS) (n0 : Nat) : List D → Rho → Cs → Option Out
  | [], ρ, cs => some (.nx ρ cs)
  | d :: ds, ρ, cs => (g d ρ).bind fun ρ1 => (b n0 ρ1 cs).bind fun o => match o with
    | .nx ρ2 cs2 => loopM g b n0 ds ρ2 cs2
    | .ct ρ2 cs2 => loopM g b n0 ds ρ2 cs2
    | .bk ρ2 cs2 => some (.nx ρ2 cs2)
    | .rt r cs2 => some (.rt r cs2)
def sFor (f : MI) (g : MG) (b : MS) : MS := fun n0 ρ cs => (f ρ cs).bind fun p => loopM g b n0 p.1 ρ p.2
theorem loopM_ends {g : MG} {b : MS} {n0 : Nat} : ∀ {ds : List D} {ρ : Rho} {cs : Cs} {out : Out}, loopM g b n0 ds ρ cs = some out → (∃ ρ' cs', out = .nx ρ' cs') ∨ ∃ r cs', out = .rt r cs'
  | [], ρ, cs, out, h => by cases h; exact .inl ⟨_, _, rfl⟩
  | d :: ds, ρ, cs, out, h => by
    obtain ⟨ρ1, h1, h2⟩ := Option.bind_eq_some_iff.mp h
    obtain ⟨o, h3, h4⟩ := Option.bind_eq_some_iff.mp h2
    cases o with
    | nx ρ2 cs2 => exact loopM_ends h4
    | ct ρ2 cs2 => exact loopM_ends h4
    | bk ρ2 cs2 => cases h4; exact .inl ⟨_, _, rfl⟩
    | rt r cs2 => cases h4; exact .inr ⟨_, _, rfl⟩
theorem xs_for {tg iter : Expr} {body : List Stmt} {f : MI} {g : MG} {b : MS} {pos : Pos} {ws : List Nat} (hp : PassesOwn (model X.prog X.w) X.A X.env X.xe) (hc : X.calm = true) (hi : XI X f tg iter) (hg : XG X ws g tg) (hb : XSs X b body)
    (hs : ∀ x, foldedSetIterable iter X.env x = pure x := by intro _; rfl) : XS X (sFor f g b) (.For tg iter body [] pos) :=
  ps_weak (ps_for hp hc hi hg hb hs) fun D σ H ⟨n0, ρ, O, cs, out, e0, hn, en, w, p⟩ => by
    obtain ⟨⟨ds, cs1⟩, g1, g2⟩ := Option.bind_eq_some_iff.mp e0
    clear e0
    refine ⟨ρ, O, cs, ds, cs1, g1, en, w, fun J H1 c1 w1 wk => ?_⟩
    have p1 := p.step w w1 .refl c1
    refine ⟨fun i m σ' H' => m = ds.length - i ∧ i ≤ ds.length ∧ ∃ ρ' O' cs', loopM g b n0 (ds.drop i) ρ' cs' = some out ∧ EnvOk X.K O' H' ρ' σ' ∧ Wd X.K O' cs' H' ∧ Ext n0 O O' H1 ∧ Ch O H1 H', ⟨ds.length, by simp, Nat.zero_le _, ρ, O, cs1, g2, en.ch c1, w1, .refl, .refl⟩, ?_⟩
    rintro i m σ' H' ⟨rfl, hi', ρ', O', cs', e1, en', w', ex', ch'⟩
    have sb : Sub O H1 O' H' := Sub.of ex' ch'
    have hn' : n0 ≤ O'.length := ex'.len hn
    have p' : PostS X.K n0 O' H' out D := p1.step w1 w' ex' ch'
    by_cases hlt : i < ds.length
    · have hd' : ds[i]? = some ds[i] := List.getElem?_eq_getElem hlt
      rw [List.drop_eq_getElem_cons hlt] at e1
      obtain ⟨ρ1, h1, e2⟩ := Option.bind_eq_some_iff.mp e1
      obtain ⟨o, h3, e3⟩ := Option.bind_eq_some_iff.mp e2
      clear e1 e2
      obtain ⟨go, yl⟩ := (wk i O' cs' H' sb w').2 _ hd'
      refine .inr ⟨go, fun σ2 H2 => i + 1 ≤ ds.length ∧ ∃ ρ2 O2 cs2, loopM g b n0 (ds.drop (i + 1)) ρ2 cs2 = some out ∧ EnvOk X.K O2 H2 ρ2 σ2 ∧ Wd X.K O2 cs2 H2 ∧ Ext n0 O O2 H1 ∧ Ch O H1 H2, fun σ2 H2 h2 => ⟨ds.length - (i + 1), by omega, rfl, h2⟩, fun x H3 hy => ?_⟩
      obtain ⟨c3, w3, r3⟩ := yl x H3 hy
      refine ⟨ρ', O', cs', ds[i], ρ1, h1, r3, en'.ch c3, w3, fun σ4 en4 _ => ?_⟩
      refine ⟨n0, ρ1, O', cs', o, h3, hn', en4, w3, ?_⟩
      have again : ∀ ρ2 cs2, loopM g b n0 (ds.drop (i + 1)) ρ2 cs2 = some out → ∀ σ5 O5 H5, Ext n0 O' O5 H3 → Ch O' H3 H5 → EnvOk X.K O5 H5 ρ2 σ5 → Wd X.K O5 cs2 H5 →
          i + 1 ≤ ds.length ∧ ∃ ρ2 O2 cs2, loopM g b n0 (ds.drop (i + 1)) ρ2 cs2 = some out ∧ EnvOk X.K O2 H5 ρ2 σ5 ∧ Wd X.K O2 cs2 H5 ∧ Ext n0 O O2 H1 ∧ Ch O H1 H5 := fun ρ2 cs2 hl σ5 O5 H5 e5 c5 en5 w5 => by
        have ex3 : Ext n0 O O' H1 := ex'
        have ch3 : Ch O H1 H3 := ch'.ext ex' c3
        exact ⟨hlt, ρ2, O5, cs2, hl, en5, w5, ex3.trans w1 w3 ch3 e5, ch3.ext ex3 c5⟩
      have p3 : PostS X.K n0 O' H3 out D := p'.step w' w3 .refl c3
      cases o with
      | nx ρ2 cs2 => exact again ρ2 cs2 e3
      | ct ρ2 cs2 => exact again ρ2 cs2 e3
      | bk ρ2 cs2 => cases e3; exact p3
      | rt r cs2 => cases e3; exact p3
    · have ei : i = ds.length := by omega
      subst ei
      rw [List.drop_length] at e1
      cases e1
      exact .inl ⟨(wk ds.length O' cs' H' sb w').1 (Nat.le_refl _), p' _ O' H' .refl .refl en' w'⟩
/-! while -/
def wh (c : MT) (b : MS) (n0 : Nat) : Nat → Rho → Cs → Option Out
  | 0, _, _ => none
  | n + 1, ρ, cs => (c ρ cs).bind fun p => if p.1 = true then (b n0 ρ p.2).bind fun o => match o with
      | .nx ρ2 cs2 => wh c b n0 n ρ2 cs2
      | .ct ρ2 cs2 => wh c b n0 n ρ2 cs2
      | .bk ρ2 cs2 => some (.nx ρ2 cs2)
      | .rt r cs2 => some (.rt r cs2)
    else some (.nx ρ p.2)
open Classical in
noncomputable def sWh (c : MT) (b : MS) : MS := fun n0 ρ cs => if h : ∃ n, (wh c b n0 n ρ cs).isSome = true then wh c b n0 (Classical.choose h) ρ cs else none
theorem sWh_some {c : MT} {b : MS} {n0 : Nat} {ρ : Rho} {cs : Cs} {out : Out} (h : sWh c b n0 ρ cs = some out) : ∃ n, wh c b n0 n ρ cs = some out := by
  unfold sWh at h
  split at h
  · exact ⟨_, h⟩
  · cases h
theorem wh_mono {c : MT} {b : MS} {n0 : Nat} : ∀ {n : Nat} {ρ : Rho} {cs : Cs} {out : Out}, wh c b n0 n ρ cs = some out → ∀ k, wh c b n0 (n + k) ρ cs = some out
  | 0, _, _, _, h, _ => by cases h
  | n + 1, ρ, cs, out, h, k => by
    obtain ⟨⟨t, cs1⟩, h1, h2⟩ := Option.bind_eq_some_iff.mp h
    rw [show n + 1 + k = (n + k) + 1 by omega]
    refine Option.bind_eq_some_iff.mpr ⟨_, h1, ?_⟩
    cases t with
    | false => exact h2
    | true =>
      obtain ⟨o, h3, h4⟩ := Option.bind_eq_some_iff.mp h2
      refine Option.bind_eq_some_iff.mpr ⟨o, h3, ?_⟩
      cases o with
      | nx ρ2 cs2 => exact wh_mono h4 k
      | ct ρ2 cs2 => exact wh_mono h4 k
      | bk ρ2 cs2 => exact h4
      | rt r cs2 => exact h4
theorem sWh_of {c : MT} {b : MS} {n0 n : Nat} {ρ : Rho} {cs : Cs} {out : Out} (h : wh c b n0 n ρ cs = some out) : sWh c b n0 ρ cs = some out := by
  have hx : ∃ n, (wh c b n0 n ρ cs).isSome = true := ⟨n, by rw [h]; rfl⟩
  unfold sWh
  rw [dif_pos hx]
  obtain ⟨o, ho⟩ := Option.isSome_iff_exists.mp (Classical.choose_spec hx)
  rw [ho]
  have a := wh_mono h (Classical.choose hx)
  have b' := wh_mono ho n
  rw [Nat.add_comm] at b'
  rw [a] at b'
  exact b'.symm
theorem xs_while {c : Expr} {body : List Stmt} {t : MT} {b : MS} {pos : Pos} (hp : PassesOwn (model X.prog X.w) X.A X.env X.xe) (hc : XT X t c) (hb : XSs X b body) : XS X (sWh t b) (.While c body [] pos) :=
  ps_weak (ps_while hp hc hb) fun D σ H ⟨n0, ρ, O, cs, out, e0, hn, en, w, p⟩ => by
    obtain ⟨n, e1⟩ := sWh_some e0
    clear e0
    refine ⟨fun m σ' H' => ∃ ρ' O' cs', wh t b n0 m ρ' cs' = some out ∧ EnvOk X.K O' H' ρ' σ' ∧ Wd X.K O' cs' H' ∧ Ext n0 O O' H ∧ Ch O H H', ⟨n, ρ, O, cs, e1, en, w, .refl, .refl⟩, ?_⟩
    rintro m σ' H' ⟨ρ', O', cs', e2, en', w', ex', ch'⟩
    cases m with
    | zero => cases e2
    | succ m =>
      obtain ⟨⟨k, cs1⟩, h1, e3⟩ := Option.bind_eq_some_iff.mp e2
      clear e2
      have p' : PostS X.K n0 O' H' out D := p.step w w' ex' ch'
      refine ⟨ρ', O', cs', k, cs1, h1, en', w', fun H1 c1 w1 => ?_⟩
      have p1 : PostS X.K n0 O' H1 out D := p'.step w' w1 .refl c1
      cases k with
      | false =>
        cases e3
        exact p1 σ' O' H1 .refl .refl (en'.ch c1) w1
      | true =>
        obtain ⟨o, h3, e4⟩ := Option.bind_eq_some_iff.mp e3
        clear e3
        refine ⟨fun σ2 H2 => ∃ ρ2 O2 cs2, wh t b n0 m ρ2 cs2 = some out ∧ EnvOk X.K O2 H2 ρ2 σ2 ∧ Wd X.K O2 cs2 H2 ∧ Ext n0 O O2 H ∧ Ch O H H2, fun σ2 H2 h2 => ⟨m, Nat.lt_succ_self m, h2⟩, ?_⟩
        refine ⟨n0, ρ', O', cs1, o, h3, ex'.len hn, en'.ch c1, w1, ?_⟩
        have ch1 : Ch O H H1 := ch'.ext ex' c1
        have again : ∀ ρ2 cs2, wh t b n0 m ρ2 cs2 = some out → ∀ σ5 O5 H5, Ext n0 O' O5 H1 → Ch O' H1 H5 → EnvOk X.K O5 H5 ρ2 σ5 → Wd X.K O5 cs2 H5 →
            ∃ ρ2 O2 cs2, wh t b n0 m ρ2 cs2 = some out ∧ EnvOk X.K O2 H5 ρ2 σ5 ∧ Wd X.K O2 cs2 H5 ∧ Ext n0 O O2 H ∧ Ch O H H5 := fun ρ2 cs2 hl σ5 O5 H5 e5 c5 en5 w5 =>
          ⟨ρ2, O5, cs2, hl, en5, w5, ex'.trans w w1 ch1 e5, ch1.ext ex' c5⟩
        cases o with
        | nx ρ2 cs2 => exact again ρ2 cs2 e4
        | ct ρ2 cs2 => exact again ρ2 cs2 e4
        | bk ρ2 cs2 => cases e4; exact p1
        | rt r cs2 => cases e4; exact p1
end
end DL
namespace DL
open PySem PySem.Spec PyProof.Rows L2
section
variable {X : Cx}
/-! sources -/
def itemsOf : D → Option (List D)
  | .list ds => some ds
  | .tuple ds => some ds
  | .str x => some (x.cps.toList.map fun c => .str ⟨#[c]⟩)
  | .dict kvs => if (!isFn kvs && kvs.all fun p => match p.1 with | .str x => decide (x.length ≤ sizeLine) | _ => true) = true then some (kvs.map (·.1)) else none
  | _ => none
def iSeq (f : ME) : MI := fun ρ cs => (f ρ cs).bind fun p => match deg p.1 with
  | .dat d => (itemsOf d).map fun ds => (ds, p.2)
  | _ => none
theorem iSeq_some {f : ME} {ρ : Rho} {cs cs' : Cs} {ds : List D} (h : iSeq f ρ cs = some (ds, cs')) : ∃ r d, f ρ cs = some (r, cs') ∧ deg r = .dat d ∧ itemsOf d = some ds := by
  obtain ⟨⟨r, cs1⟩, h1, h2⟩ := Option.bind_eq_some_iff.mp h
  dsimp only at h2
  split at h2
  · rename_i d hd'
    obtain ⟨x, h3, h4⟩ := Option.map_eq_some_iff.mp h2
    cases h4
    exact ⟨r, d, h1, hd', h3⟩
  · cases h2
theorem walk_list {K : PySem.W.Frag} {O : List (Option Addr)} {H : Hp} {a : Addr} {ds : List D} (r : Rp K (hd O H) (.ref a) (.list ds)) : Walk K O H (Itl K a) ds := by
  intro i O2 cs2 H2 sb w2
  cases r with
  | lst q r =>
    have q2 : SqL K H2 a _ := ((q.mono sb).mono hd_le).sq
    have r2 := r.mono sb
    refine ⟨fun hi => ⟨_, q2, by rw [r2.length]; exact hi⟩, fun d hd' => ?_⟩
    obtain ⟨v, h1, h2⟩ := r2.get hd'
    refine ⟨⟨_, v, q2, h1⟩, fun x H3 hy => ?_⟩
    obtain ⟨rfl, fx⟩ := hy
    have := fx _ q2
    rw [h1] at this; cases this
    exact ⟨.refl, w2, h2⟩
theorem walk_tup {K : PySem.W.Frag} {O : List (Option Addr)} {H : Hp} {a : Addr} {ds : List D} (r : Rp K (hd O H) (.ref a) (.tuple ds)) : Walk K O H (Itt K a) ds := by
  intro i O2 cs2 H2 sb w2
  cases r with
  | tup q r =>
    have q2 : SqT K H2 a _ := sqT_mono hd_le (sqT_mono sb q)
    have r2 := r.mono sb
    refine ⟨fun hi => ⟨_, q2, by rw [r2.length]; exact hi⟩, fun d hd' => ?_⟩
    obtain ⟨v, h1, h2⟩ := r2.get hd'
    refine ⟨⟨_, v, q2, h1⟩, fun x H3 hy => ?_⟩
    obtain ⟨rfl, fx⟩ := hy
    have := fx _ q2
    rw [h1] at this; cases this
    exact ⟨.refl, w2, h2⟩
theorem walk_str {K : PySem.W.Frag} {O : List (Option Addr)} {H : Hp} {x : Str} : Walk K O H (Its x) (x.cps.toList.map fun c => .str ⟨#[c]⟩) := by
  intro i O2 cs2 H2 sb w2
  refine ⟨fun hi => (show x.cps.size ≤ i by simpa using hi), fun d hd' => ?_⟩
  rw [List.getElem?_map] at hd'
  obtain ⟨c, h1, h2⟩ := Option.map_eq_some_iff.mp hd'
  have h1' : x.cps[i]? = some c := by simpa using h1
  refine ⟨(Array.getElem?_eq_some_iff.mp h1').1, fun v H3 hy => ?_⟩
  obtain ⟨rfl, c', hc', rfl⟩ := hy
  rw [h1'] at hc'; cases hc'
  subst h2
  exact ⟨.refl, w2, .str _ (one_sign c)⟩
theorem kV_rp {K : PySem.W.Frag} {H : Hp} {k : Key} (h : ∀ x, k = .inr x → x.length ≤ sizeLine) : Rp K H (kV k) (kD k) := by
  cases k with
  | inl i => exact .int i
  | inr x => exact .str x (h x rfl)
theorem walk_keys {K : PySem.W.Frag} {O : List (Option Addr)} {H : Hp} {a : Addr} {o : Obj} {kvs : List (Key × V)} {ds : List (D × D)} (q : hd O H a = some (.frz o (.dK kvs))) (e : kvs.map (fun p => kD p.1) = ds.map (·.1)) (hz : ∀ (i : Nat) x v, kvs[i]? = some (.inr x, v) → x.length ≤ sizeLine) : Walk K O H (Itk a o kvs) (ds.map (·.1)) := by
  intro i O2 cs2 H2 sb w2
  have q2 := hd_le _ _ (sb _ _ q)
  rw [← e]
  refine ⟨fun hi => ⟨q2, by simpa using hi⟩, fun d hd' => ?_⟩
  rw [List.getElem?_map] at hd'
  obtain ⟨⟨k, v⟩, h1, h2⟩ := Option.map_eq_some_iff.mp hd'
  refine ⟨⟨q2, (List.getElem?_eq_some_iff.mp h1).1⟩, fun x H3 hy => ?_⟩
  obtain ⟨rfl, k', v', h3, rfl⟩ := hy
  rw [h1] at h3
  cases h3
  subst h2
  exact ⟨.refl, w2, kV_rp fun x hx => by subst hx; exact hz i x v h1⟩
theorem xi_seq {tg e : Expr} {f : ME} (he : XE X f e) : XI X (iSeq f) tg e := ⟨fun pins s σ H R I ⟨ρ, O, cs, ds, cs', e0, en, w, p⟩ => by
  obtain ⟨r, d, h1, h2, h3⟩ := iSeq_some e0
  cases d with
  | list xs =>
    cases h3
    refine (pi_list he).run pins s σ H R I ⟨ρ, O, cs, r, cs', h1, en, w, fun v H' c w' rv => ?_⟩
    have rr := rv.deg
    rw [h2] at rr
    have rr' : Rp X.K (DL.hd O H') v (.list ds) := rr
    have hw := rr'
    cases rr' with
    | lst q rp => exact ⟨_, rfl, ⟨_, (q.mono hd_le).sq⟩, p _ H' c w' (walk_list hw)⟩
  | tuple xs =>
    cases h3
    refine (pi_tup he).run pins s σ H R I ⟨ρ, O, cs, r, cs', h1, en, w, fun v H' c w' rv => ?_⟩
    have rr := rv.deg
    rw [h2] at rr
    have rr' : Rp X.K (DL.hd O H') v (.tuple ds) := rr
    have hw := rr'
    cases rr' with
    | tup q rp => exact ⟨_, rfl, ⟨_, sqT_mono hd_le q⟩, p _ H' c w' (walk_tup hw)⟩
  | str x =>
    cases h3
    refine (pi_str he).run pins s σ H R I ⟨ρ, O, cs, r, cs', h1, en, w, fun v H' c w' rv => ?_⟩
    have rr := rv.deg
    rw [h2] at rr
    have rr' : Rp X.K (DL.hd O H') v (.str x) := rr
    cases rr' with
    | str _ q => exact ⟨x, rfl, p _ H' c w' walk_str⟩
  | dict kvs =>
    obtain ⟨h4, h3⟩ := ite_some h3
    obtain ⟨h4', h4⟩ := Bool.and_eq_true_iff.mp h4
    subst h3
    refine (pi_keys he).run pins s σ H R I ⟨ρ, O, cs, r, cs', h1, en, w, fun v H' c w' rv => ?_⟩
    have rr := rv.deg
    rw [h2] at rr
    have rr' : Rp X.K (DL.hd O H') v (.dict kvs) := rr
    cases rr' with
    | fn _ => cases h4'
    | dct q e b =>
      refine ⟨_, _, rfl, .inl ⟨_, hd_le _ _ q, p _ H' c w' (walk_keys q e fun i x v' hi => ?_)⟩⟩
      have h5 : kD (.inr x) ∈ kvs.map (·.1) := by
        rw [← e]
        exact List.mem_map.mpr ⟨_, List.mem_of_getElem? hi, rfl⟩
      obtain ⟨pr, h6, h7⟩ := List.mem_map.mp h5
      have h8 := List.all_eq_true.mp h4 pr h6
      rw [h7] at h8
      exact of_decide_eq_true h8
  | _ => cases h3⟩
/-- range -/
def rngD (lo : Int) (n : Nat) : List D := (List.range n).map fun i : Nat => .int (lo + (i : Int))
theorem walk_rng {K : PySem.W.Frag} {O : List (Option Addr)} {H : Hp} {lo : Int} {n : Nat} : Walk K O H (Itr lo n) (rngD lo n) := by
  intro i O2 cs2 H2 sb w2
  refine ⟨fun hi => (show n ≤ i by simpa [rngD] using hi), fun d hd' => ?_⟩
  unfold rngD at hd'
  rw [List.getElem?_map] at hd'
  obtain ⟨c, h1, h2⟩ := Option.map_eq_some_iff.mp hd'
  have hi : i < n := by
    have := (List.getElem?_eq_some_iff.mp h1).1
    simpa using this
  rw [List.getElem?_range hi] at h1
  cases h1
  subst h2
  refine ⟨hi, fun v H3 hy => ?_⟩
  obtain ⟨rfl, rfl⟩ := hy
  exact ⟨.refl, w2, .int _⟩
def sm62 (i : Int) : Prop := -(2 ^ 62) ≤ i ∧ i < 2 ^ 62
instance (i : Int) : Decidable (sm62 i) := inferInstanceAs (Decidable (_ ∧ _))
def intsOf : List Rv → Option (List Int)
  | [] => some []
  | r :: rs => (intOf r).bind fun i => (intsOf rs).map fun is => i :: is
theorem intsOf_v {K : PySem.W.Frag} {O : List (Option Addr)} {H : Hp} : ∀ {rs : List Rv} {vs : List V} {is : List Int}, ArRs K O H rs vs → intsOf rs = some is → vs = is.map V.int
  | [], [], is, _, e => by cases e; rfl
  | r :: rs, v :: vs, is, h, e => by
    obtain ⟨i, h1, h2⟩ := Option.bind_eq_some_iff.mp e
    obtain ⟨js, h3, h4⟩ := Option.map_eq_some_iff.mp h2
    subst h4
    obtain rfl : r = di i := intOf_some h1
    cases (show Rp K (hd O H) v (.int i) from h.1)
    rw [intsOf_v h.2 h3]; rfl
  | [], _ :: _, _, h, _ => h.elim
  | _ :: _, [], _, h, _ => h.elim
def iRg1 (fa : MA) : MI := fun ρ cs => (fa ρ cs).bind fun p => match intsOf p.1 with
  | some [j] => if sm62 j then some (rngD 0 j.toNat, p.2) else none
  | _ => none
def iRg2 (fa : MA) : MI := fun ρ cs => (fa ρ cs).bind fun p => match intsOf p.1 with
  | some [i, j] => if sm62 i ∧ sm62 j then some (rngD i (j - i).toNat, p.2) else none
  | _ => none
theorem xi_range1 {tg a : Expr} {fa : MA} {p pos : Pos} (hg : Gl X "range") (hm : X.mg "range" = none) (ha : XA X fa [a]) (hs : starEach [a] X.env = [(false, eval a X.env)] := by rfl) : XI X (iRg1 fa) tg (.Call (.Name "range" p) [a] [] pos) :=
  pi_weak (pi_range1 hg hm ha hs) fun σ H R ⟨ρ, O, cs, ds, cs', e0, en, w, p⟩ => by
    obtain ⟨⟨rs, cs1⟩, h1, h2⟩ := Option.bind_eq_some_iff.mp e0
    refine ⟨ρ, O, cs, rs, cs1, h1, en, w, fun vs H' c w' ra => ?_⟩
    dsimp only at h2
    split at h2
    · rename_i j hj
      obtain ⟨hz, e⟩ := ite_some h2
      cases e
      rw [intsOf_v ra hj]
      exact ⟨j, rfl, hz.1, hz.2, p _ H' c w' walk_rng⟩
    · cases h2
theorem xi_range2 {tg a b : Expr} {fa : MA} {p pos : Pos} (hg : Gl X "range") (hm : X.mg "range" = none) (ha : XA X fa [a, b]) (hs : starEach [a, b] X.env = [(false, eval a X.env), (false, eval b X.env)] := by rfl) (hs2 : starEach [b] X.env = [(false, eval b X.env)] := by rfl) :
    XI X (iRg2 fa) tg (.Call (.Name "range" p) [a, b] [] pos) :=
  pi_weak (pi_range2 hg hm ha hs hs2) fun σ H R ⟨ρ, O, cs, ds, cs', e0, en, w, p⟩ => by
    obtain ⟨⟨rs, cs1⟩, h1, h2⟩ := Option.bind_eq_some_iff.mp e0
    refine ⟨ρ, O, cs, rs, cs1, h1, en, w, fun vs H' c w' ra => ?_⟩
    dsimp only at h2
    split at h2
    · rename_i i j hj
      obtain ⟨hz, e⟩ := ite_some h2
      cases e
      rw [intsOf_v ra hj]
      exact ⟨i, j, rfl, ⟨hz.1.1, hz.1.2, hz.2.1, hz.2.2⟩, p _ H' c w' walk_rng⟩
    · cases h2
/-- enumerate of a list -/
def enumD : Nat → List D → List D
  | _, [] => []
  | i, d :: ds => .tuple [.int (i : Int), d] :: enumD (i + 1) ds
theorem enumD_len : ∀ (ds : List D) (k : Nat), (enumD k ds).length = ds.length
  | [], _ => rfl
  | d :: ds, k => by rw [enumD, List.length_cons, List.length_cons, enumD_len ds]
theorem enumD_get : ∀ (ds : List D) (k i : Nat) (d : D), (enumD k ds)[i]? = some d → ∃ e, ds[i]? = some e ∧ d = .tuple [.int ((k + i : Nat) : Int), e]
  | [], _, _, _, h => by simp [enumD] at h
  | e :: ds, k, 0, d, h => by
    simp [enumD] at h
    exact ⟨e, rfl, h.symm⟩
  | e :: ds, k, i + 1, d, h => by
    have h' : (enumD (k + 1) ds)[i]? = some d := by simpa [enumD] using h
    obtain ⟨e', h1, h2⟩ := enumD_get ds (k + 1) i d h'
    exact ⟨e', by simpa using h1, by rw [h2, show k + 1 + i = k + (i + 1) by omega]⟩
theorem two_rp {K : PySem.W.Frag} {O : List (Option Addr)} {cs : Cs} {H : Hp} {T : Addr} {x y : V} {d e : D} (w : Wd K O cs H) (hT : H T = none) (hx : Rp K (hd O H) x d) (hy : Rp K (hd O H) y e) :
    Ch O H (upd H T (.tup [x, y])) ∧ Wd K O cs (upd H T (.tup [x, y])) ∧ Rp K (hd O (upd H T (.tup [x, y]))) (.ref T) (.tuple [d, e]) :=
  ⟨ch_new hT, w.new hT, .tup (.inl (.inl (hd_of (w.fresh hT) upd_same))) (.cons (hx.mono (ch_new hT).data) (.cons (hy.mono (ch_new hT).data) .nil))⟩
theorem walk_enum {K : PySem.W.Frag} {O : List (Option Addr)} {H : Hp} {a : Addr} {ds : List D} (r : Rp K (hd O H) (.ref a) (.list ds)) : Walk K O H (Ite K a) (enumD 0 ds) := by
  intro i O2 cs2 H2 sb w2
  cases r with
  | lst q r =>
    have q2 : SqL K H2 a _ := ((q.mono sb).mono hd_le).sq
    have r2 := r.mono sb
    refine ⟨fun hi => ⟨_, q2, by rw [r2.length]; rw [enumD_len] at hi; exact hi⟩, fun d hd' => ?_⟩
    obtain ⟨e, h0, rfl⟩ := enumD_get ds 0 i d hd'
    obtain ⟨v, h1, h2⟩ := r2.get h0
    refine ⟨⟨_, v, q2, h1⟩, fun x H3 hy => ?_⟩
    obtain ⟨T, y, rfl, hT, rfl, fx⟩ := hy
    have := fx _ q2
    rw [h1] at this; cases this
    rw [Nat.zero_add]
    exact two_rp w2 hT (.int _) h2
def lstOf (r : Rv) : Option (List D) := match deg r with
  | .dat (.list ds) => some ds
  | _ => none
theorem lstOf_some {r : Rv} {ds : List D} (h : lstOf r = some ds) : deg r = .dat (.list ds) := by
  unfold lstOf at h
  split at h
  · rename_i xs hx; cases h; exact hx
  · cases h
def iEn (fa : MA) : MI := fun ρ cs => (fa ρ cs).bind fun p => match p.1 with
  | [r] => (lstOf r).map fun ds => (enumD 0 ds, p.2)
  | _ => none
theorem deg_ar {K : PySem.W.Frag} {O : List (Option Addr)} {H : Hp} {r : Rv} {v : V} (h : ArR K O r v H) : deg r = r := by
  cases r with
  | fr c => exact h.elim
  | _ => rfl
theorem xi_enum {e : Expr} {fa : MA} {p pos tpos : Pos} {elts : List Expr} {kk : Nat} (hg : Gl X "enumerate") (hm : X.mg "enumerate" = none) (ha : XA X fa [e]) (hs : starEach [e] X.env = [(false, eval e X.env)] := by rfl) :
    XI X (iEn fa) (.Tuple elts kk tpos) (.Call (.Name "enumerate" p) [e] [] pos) :=
  pi_weak (pi_enum hg hm ha hs) fun σ H R ⟨ρ, O, cs, ds, cs', e0, en, w, p⟩ => by
    obtain ⟨⟨rs, cs1⟩, h1, h2⟩ := Option.bind_eq_some_iff.mp e0
    refine ⟨ρ, O, cs, rs, cs1, h1, en, w, fun vs H' c w' ra => ?_⟩
    dsimp only at h2
    split at h2
    · rename_i r
      obtain ⟨xs, h3, h4⟩ := Option.map_eq_some_iff.mp h2
      cases h4
      match vs, ra with
      | [v], ra =>
        have rr := ra.1
        rw [← deg_ar ra.1, lstOf_some h3] at rr
        have rr' : Rp X.K (DL.hd O H') v (.list xs) := rr
        have hw := rr'
        cases rr' with
        | lst q rp => exact ⟨_, _, rfl, (q.mono hd_le).sq, p _ H' c w' (walk_enum hw)⟩
      | [], ra => exact ra.elim
      | _ :: _ :: _, ra => exact ra.2.elim
    · cases h2
/-- zip of two lists, of two tuples -/
def zipD : List D → List D → List D
  | x :: xs, y :: ys => .tuple [x, y] :: zipD xs ys
  | _, _ => []
theorem zipD_len : ∀ (xs ys : List D), (zipD xs ys).length = min xs.length ys.length
  | [], ys => by simp [zipD]
  | x :: xs, [] => by simp [zipD]
  | x :: xs, y :: ys => by rw [zipD, List.length_cons, zipD_len xs ys, List.length_cons, List.length_cons]; omega
theorem zipD_get : ∀ (xs ys : List D) (i : Nat) (d : D), (zipD xs ys)[i]? = some d → ∃ x y, xs[i]? = some x ∧ ys[i]? = some y ∧ d = .tuple [x, y]
  | [], ys, _, _, h => by simp [zipD] at h
  | x :: xs, [], _, _, h => by simp [zipD] at h
  | x :: xs, y :: ys, 0, d, h => by
    simp [zipD] at h
    exact ⟨x, y, rfl, rfl, h.symm⟩
  | x :: xs, y :: ys, i + 1, d, h => by
    have h' : (zipD xs ys)[i]? = some d := by simpa [zipD] using h
    obtain ⟨a, b, h1, h2, h3⟩ := zipD_get xs ys i d h'
    exact ⟨a, b, by simpa using h1, by simpa using h2, h3⟩
theorem walk_zip {K : PySem.W.Frag} {O : List (Option Addr)} {H : Hp} {a b : Addr} {xs ys : List D} (r : Rp K (hd O H) (.ref a) (.list xs)) (r' : Rp K (hd O H) (.ref b) (.list ys)) : Walk K O H (Itz K a b) (zipD xs ys) := by
  intro i O2 cs2 H2 sb w2
  cases r with
  | lst q r =>
    cases r' with
    | lst q' r' =>
      have q2 : SqL K H2 a _ := ((q.mono sb).mono hd_le).sq
      have q3 : SqL K H2 b _ := ((q'.mono sb).mono hd_le).sq
      have r2 := r.mono sb
      have r3 := r'.mono sb
      refine ⟨fun hi => ⟨_, _, q2, q3, ?_⟩, fun d hd' => ?_⟩
      · rw [zipD_len] at hi
        rw [r2.length, r3.length]; omega
      · obtain ⟨x, y, hx, hy, rfl⟩ := zipD_get xs ys i d hd'
        obtain ⟨v, h1, h2⟩ := r2.get hx
        obtain ⟨u, h3, h4⟩ := r3.get hy
        refine ⟨⟨_, _, v, u, q2, q3, h1, h3⟩, fun z H3 hz => ?_⟩
        obtain ⟨T, v', u', rfl, hT, rfl, fx, fy⟩ := hz
        have e1 := fx _ q2
        have e2 := fy _ q3
        rw [h1] at e1; cases e1
        rw [h3] at e2; cases e2
        exact two_rp w2 hT h2 h4
theorem walk_zipT {K : PySem.W.Frag} {O : List (Option Addr)} {H : Hp} {a b : Addr} {xs ys : List D} (r : Rp K (hd O H) (.ref a) (.tuple xs)) (r' : Rp K (hd O H) (.ref b) (.tuple ys)) : Walk K O H (RZ.ItzT K a b) (zipD xs ys) := by
  intro i O2 cs2 H2 sb w2
  cases r with
  | tup q r =>
    cases r' with
    | tup q' r' =>
      have q2 : SqT K H2 a _ := sqT_mono hd_le (sqT_mono sb q)
      have q3 : SqT K H2 b _ := sqT_mono hd_le (sqT_mono sb q')
      have r2 := r.mono sb
      have r3 := r'.mono sb
      refine ⟨fun hi => ⟨_, _, q2, q3, ?_⟩, fun d hd' => ?_⟩
      · rw [zipD_len] at hi
        rw [r2.length, r3.length]; omega
      · obtain ⟨x, y, hx, hy, rfl⟩ := zipD_get xs ys i d hd'
        obtain ⟨v, h1, h2⟩ := r2.get hx
        obtain ⟨u, h3, h4⟩ := r3.get hy
        refine ⟨⟨_, _, v, u, q2, q3, h1, h3⟩, fun z H3 hz => ?_⟩
        obtain ⟨T, v', u', rfl, hT, rfl, fx, fy⟩ := hz
        have e1 := fx _ q2
        have e2 := fy _ q3
        rw [h1] at e1; cases e1
        rw [h3] at e2; cases e2
        exact two_rp w2 hT h2 h4
def iZp (fa : MA) : MI := fun ρ cs => (fa ρ cs).bind fun p => match p.1 with
  | [.dat (.list xs), .dat (.list ys)] => some (zipD xs ys, p.2)
  | [.dat (.tuple xs), .dat (.tuple ys)] => some (zipD xs ys, p.2)
  | _ => none
theorem xi_zip {e e2 : Expr} {fa : MA} {p pos tpos : Pos} {elts : List Expr} {kk : Nat} (hg : Gl X "zip") (hm : X.mg "zip" = none) (ha : XA X fa [e, e2])
    (hs : starEach [e, e2] X.env = (false, eval e X.env) :: starEach [e2] X.env := by rfl) (hpl : (backTo pos (starEach [e2] X.env)).any (·.1) = false := by rfl) :
    XI X (iZp fa) (.Tuple elts kk tpos) (.Call (.Name "zip" p) [e, e2] [] pos) :=
  pi_weak (RZ.pi_zipA hg hm ha hs hpl) fun σ H R ⟨ρ, O, cs, ds, cs', e0, en, w, p⟩ => by
    obtain ⟨⟨rs, cs1⟩, h1, h2⟩ := Option.bind_eq_some_iff.mp e0
    refine ⟨ρ, O, cs, rs, cs1, h1, en, w, fun vs H' c w' ra => ?_⟩
    dsimp only at h2
    split at h2
    · rename_i _ xs ys
      cases h2
      match vs, ra with
      | [v, u], ra =>
        have r1 : Rp X.K (DL.hd O H') v (.list xs) := ra.1
        have r2 : Rp X.K (DL.hd O H') u (.list ys) := ra.2.1
        have k1 := r1
        have k2 := r2
        cases r1 with
        | lst q rp =>
          cases r2 with
          | lst q' rp' => exact ⟨_, _, _, _, rfl, .inl ⟨(q.mono hd_le).sq, (q'.mono hd_le).sq, p _ H' c w' (walk_zip k1 k2)⟩⟩
      | [], ra => exact ra.elim
      | [_], ra => exact ra.2.elim
      | _ :: _ :: _ :: _, ra => exact ra.2.2.elim
    · rename_i _ xs ys
      cases h2
      match vs, ra with
      | [v, u], ra =>
        have r1 : Rp X.K (DL.hd O H') v (.tuple xs) := ra.1
        have r2 : Rp X.K (DL.hd O H') u (.tuple ys) := ra.2.1
        have k1 := r1
        have k2 := r2
        cases r1 with
        | tup q rp =>
          cases r2 with
          | tup q' rp' => exact ⟨_, _, _, _, rfl, .inr ⟨sqT_mono hd_le q, sqT_mono hd_le q', p _ H' c w' (walk_zipT k1 k2)⟩⟩
      | [], ra => exact ra.elim
      | [_], ra => exact ra.2.elim
      | _ :: _ :: _ :: _, ra => exact ra.2.2.elim
    · cases h2
end
end DL
namespace DL
open PySem PySem.Spec PyProof.Rows L2
section
variable {X : Cx}
/-! comprehensions -/
def wipeR (ρ : Rho) : List Nat → Rho
  | [] => ρ
  | v :: vs => (wipeR ρ vs).set v none
theorem EnvOk.wipe {K : PySem.W.Frag} {O : List (Option Addr)} {H : Hp} {ρ : Rho} {σ : L2.St} (e : EnvOk K O H ρ σ) : ∀ vs : List Nat, EnvOk K O H (wipeR ρ vs) (L2.wipe σ vs)
  | [] => e
  | v :: vs => by
    have ih := EnvOk.wipe e vs
    refine ⟨by simp [wipeR, L2.wipe, ih.len], fun j r hj => ?_⟩
    unfold wipeR at hj
    by_cases q : v = j
    · subst q
      have hv : v < (wipeR ρ vs).length := by
        have := (List.getElem?_eq_some_iff.mp hj).1
        simpa using this
      rw [List.getElem?_set_self hv] at hj
      cases hj
    · rw [List.getElem?_set_ne q] at hj
      obtain ⟨w, h1, h2⟩ := ih.slot j r hj
      exact ⟨w, by unfold L2.wipe; rw [List.getElem?_set_ne q]; exact h1, h2⟩
def XTs (X : Cx) (f : MT) (es : List Expr) : Prop := PTs X es (tXT X.K f)
theorem pts_weak {es : List Expr} {t t' : TT} (h : PTs X es t) (w : ∀ σ H Q, t' σ H Q → t σ H Q) : PTs X es t' := ⟨fun pins s σ H Q I q => h.run pins s σ H Q I (w _ _ _ q)⟩
def mYes : MT := fun _ cs => some (true, cs)
theorem xts_nil : XTs X mYes [] := pts_weak pts_nil fun σ H Q ⟨ρ, O, cs, b, cs', e, en, w, p⟩ => by
  cases e
  exact p H .refl w
theorem xts_one {c : Expr} {t : MT} (h : XT X t c) : XTs X t [c] := pts_one h
def compM (g : MG) (t : MT) (f : ME) : List D → Rho → Cs → List D → Option (List D × Cs)
  | [], _, cs, acc => some (acc, cs)
  | d :: ds, ρ, cs, acc => (g d ρ).bind fun ρ1 => (t ρ1 (cs ++ [some acc])).bind fun p => if p.1 = true then (f ρ1 p.2).bind fun q => match deg q.1, q.2[cs.length]? with
      | .dat e, some (some c) => if c.length < sizeLine then compM g t f ds ρ (q.2.take cs.length) (c ++ [e]) else none
      | _, _ => none
    else match p.2[cs.length]? with
      | some (some c) => compM g t f ds ρ (p.2.take cs.length) c
      | _ => none
def xComp (f : MI) (g : MG) (t : MT) (e : ME) (vs : List Nat) : ME := fun ρ cs => (f ρ cs).bind fun p => (compM g t e p.1 (wipeR ρ vs) p.2 []).map fun q => (.fr q.1, q.2)
theorem take_of {K : PySem.W.Frag} {O : List (Option Addr)} {p : Addr} {cs : Cs} {H : Hp} (w : Wd K (O ++ [some p]) cs H) : ∃ c, cs[O.length]? = some (some c) ∧ cs = cs.take O.length ++ [some c] := by
  obtain ⟨c, vs, h1, _, _⟩ := w.cell O.length p (by simp)
  have hl : cs.length = O.length + 1 := by rw [w.len]; simp
  refine ⟨c, h1, ?_⟩
  apply List.ext_getElem?
  intro i
  by_cases hi : i < O.length
  · rw [List.getElem?_append_left (by simp; omega), List.getElem?_take_of_lt hi]
  · by_cases he : i = O.length
    · subst he
      rw [List.getElem?_append_right (by simp; omega)]
      have : O.length - (cs.take O.length).length = 0 := by simp; omega
      rw [this, h1]; rfl
    · rw [List.getElem?_eq_none (by omega), List.getElem?_eq_none (by simp; omega)]
theorem wipe_wipe (σ : L2.St) (vs : List Nat) : L2.wipe (L2.wipe σ vs) vs = L2.wipe σ vs := by
  apply List.ext_getElem?
  intro j
  by_cases c : j ∈ vs ∧ j < σ.length
  · simp only [wipe_get, wipe_length, if_pos c]
  · simp only [wipe_get, wipe_length, if_neg c]
theorem set_take {cs : Cs} {n : Nat} {x : Option (List D)} (h : cs.length = n + 1) : cs.set n x = cs.take n ++ [x] := by
  apply List.ext_getElem?
  intro i
  by_cases hi : i < n
  · rw [List.getElem?_append_left (by simp; omega), List.getElem?_take_of_lt hi, List.getElem?_set_ne (by omega)]
  · by_cases he : i = n
    · subst he
      rw [List.getElem?_set_self (by omega), List.getElem?_append_right (by simp; omega)]
      have : i - (cs.take i).length = 0 := by simp; omega
      rw [this]; rfl
    · rw [List.getElem?_eq_none (by simp; omega), List.getElem?_eq_none (by simp; omega)]
theorem tLc_of {K : PySem.W.Frag} {f : MI} {g : MG} {t : MT} {e : ME} {vs : List Nat} {σ : L2.St} {H : Hp} {Q : VK} (h : tX K (xComp f g t e vs) σ H Q) : tLc (tI K f) (tG K vs g) (tXT K t) (tX K e) vs σ H Q := by
  obtain ⟨ρ, O, cs, r, cs', e0, en, w, p⟩ := h
  obtain ⟨⟨ds, cs1⟩, g1, e1⟩ := Option.bind_eq_some_iff.mp e0
  obtain ⟨⟨res, cs9⟩, g2, e2⟩ := Option.map_eq_some_iff.mp e1
  clear e0 e1
  cases e2
  refine ⟨ρ, O, cs, ds, cs1, g1, en, w, fun J H1 c1 w1 wk D hD => ?_⟩
  have hD0 : H D = none := w.new_of w1 c1 hD
  have ex0 : Ext 0 O (O ++ [some D]) H1 := ext_new (K := K) (Nat.zero_le _) hD
  have nD : D ∉ live O := w1.fresh hD
  have w0 : Wd K (O ++ [some D]) (cs1 ++ [some []]) (upd H1 D (.lst [])) := w1.newList hD .nil
  have cN : Ch O H1 (upd H1 D (.lst [])) := ch_new hD
  have en0 : EnvOk K (O ++ [some D]) (upd H1 D (.lst [])) (wipeR ρ vs) (L2.wipe σ vs) := EnvOk.ext (n0 := 0) ((en.ch c1).wipe vs) hD cN
  refine ⟨fun i m H' => m = ds.length - i ∧ i ≤ ds.length ∧ ∃ cs2 acc, compM g t e (ds.drop i) (wipeR ρ vs) cs2 acc = some (res, cs9) ∧ Wd K (O ++ [some D]) (cs2 ++ [some acc]) H' ∧ EnvOk K (O ++ [some D]) H' (wipeR ρ vs) (L2.wipe σ vs) ∧ Ch O H1 H', ⟨ds.length, by simp, Nat.zero_le _, cs1, [], g2, w0, en0, cN⟩, ?_⟩
  rintro i m H' ⟨rfl, hi', cs2, acc, e3, w', en', ch'⟩
  have sb : Sub O H1 (O ++ [some D]) H' := Sub.of ex0 ch'
  have hcs2 : cs2.length = O.length := by have := w'.len; simpa using this
  by_cases hlt : i < ds.length
  · have hd' : ds[i]? = some ds[i] := List.getElem?_eq_getElem hlt
    rw [List.drop_eq_getElem_cons hlt] at e3
    obtain ⟨ρ1, h1, e4⟩ := Option.bind_eq_some_iff.mp e3
    obtain ⟨⟨b, cs3⟩, h2, e5⟩ := Option.bind_eq_some_iff.mp e4
    clear e3 e4
    obtain ⟨go, yl⟩ := (wk i _ _ H' sb w').2 _ hd'
    refine .inr ⟨go, fun H2 => i + 1 ≤ ds.length ∧ ∃ cs2 acc, compM g t e (ds.drop (i + 1)) (wipeR ρ vs) cs2 acc = some (res, cs9) ∧ Wd K (O ++ [some D]) (cs2 ++ [some acc]) H2 ∧ EnvOk K (O ++ [some D]) H2 (wipeR ρ vs) (L2.wipe σ vs) ∧ Ch O H1 H2, fun H2 h2 => ⟨ds.length - (i + 1), by omega, rfl, h2⟩, fun x H3 hy => ?_⟩
    obtain ⟨c3, w3, r3⟩ := yl x H3 hy
    refine ⟨_, O ++ [some D], _, ds[i], ρ1, h1, r3, en'.ch c3, w3, fun σ4 en4 q4 => ⟨by rw [q4]; exact wipe_wipe σ vs, ?_⟩⟩
    refine ⟨ρ1, _, _, b, cs3, h2, en4, w3, fun H5 c5 w5 => ?_⟩
    cases b with
    | true =>
      obtain ⟨⟨r, cs4⟩, h6, e6⟩ := Option.bind_eq_some_iff.mp e5
      refine ⟨ρ1, _, cs3, r, cs4, h6, en4.ch c5, w5, fun v H6 c6 w6 rv => ?_⟩
      have rr := rv.deg
      obtain ⟨c, hc, ec⟩ := take_of w6
      dsimp only at e6
      rw [hcs2] at e6
      split at e6
      · rename_i d' c' hd2 hc2
        rw [hc] at hc2; cases hc2
        rw [hd2] at rr
        obtain ⟨hz, e7⟩ : c.length < sizeLine ∧ compM g t e (ds.drop (i + 1)) (wipeR ρ vs) (cs4.take O.length) (c ++ [d']) = some (res, cs9) := by
          by_cases hz : c.length < sizeLine
          · rw [if_pos hz] at e6; exact ⟨hz, e6⟩
          · rw [if_neg hz] at e6; cases e6
        obtain ⟨c0, vs0, k1, k2, k3⟩ := w6.cell O.length D (by simp)
        rw [hc] at k1; cases k1
        obtain ⟨w7, c7⟩ := w6.write (k := O.length) (a := D) (by simp) (k3.append (.cons (show Rp K (DL.hd _ H6) v d' from rr) .nil))
        refine ⟨vs0, k2, by rw [k3.length]; exact hz, hlt, cs4.take O.length, c ++ [d'], e7, ?_, ?_, ?_⟩
        · rw [← set_take (by rw [w6.len]; simp)]; exact w7
        · exact (((en'.ch c3).ch c5).ch c6).ch c7
        · exact (((ch'.ext ex0 c3).ext ex0 c5).ext ex0 c6).ext ex0 c7
      · cases e6
    | false =>
      obtain ⟨c, hc, ec⟩ := take_of w5
      have e6 : (match cs3[cs2.length]? with
        | some (some c) => compM g t e (ds.drop (i + 1)) (wipeR ρ vs) (cs3.take cs2.length) c
        | _ => none) = some (res, cs9) := e5
      rw [hcs2, hc] at e6
      refine ⟨hlt, cs3.take O.length, c, e6, by rw [← ec]; exact w5, (en'.ch c3).ch c5, (ch'.ext ex0 c3).ext ex0 c5⟩
  · have ei : i = ds.length := by omega
    subst ei
    rw [List.drop_length] at e3
    cases e3
    exact .inl ⟨(wk ds.length _ _ H' sb w').1 (Nat.le_refl _), p _ H' (c1.trans ch') w'.pop.1 ⟨D, rfl, hD0, w'⟩⟩
end
end DL
namespace DL
open PySem PySem.Spec PyProof.Rows L2
section
variable {X : Cx}
abbrev BlkX (X : Cx) (scope : Scope) (P : Cx → Prop) : Prop := ∀ (s : Shared) (H : Hp) (C : Addr) (cl : List (Str × Addr)) (fp : List Addr), P (X.blk s H scope (compEnvC scope cl C X.env) fp)
theorem xe_comp {elt tg iter : Expr} {ifs : List Expr} {scope : Scope} {own : List (Str × Nat)} {pos : Pos} {f : MI} {g : MG} {t : MT} {e : ME} (hc : X.calm = true) (hN : X.N.Nodup) (hi : XI X f tg iter) (ok : BlkOk X.N X.env.scope scope own)
    (hg : BlkX X scope fun Y => XG Y (own.map (·.2)) g tg) (ht : BlkX X scope fun Y => XTs Y t ifs) (he : BlkX X scope fun Y => XE Y e elt) (hs : ∀ x, foldedSetIterable iter X.env x = pure x := by intro _; rfl) :
    XE X (xComp f g t e (own.map (·.2))) (.ListComp elt [⟨tg, iter, ifs, 0⟩] scope pos) := (
    have hg' : ∀ (s : Shared) (H : Hp) (C : Addr) (cl : List (Str × Addr)) (fp : List Addr), PG (X.blk s H scope (compEnvC scope cl C X.env) fp) tg (tG X.K (own.map (·.2)) g) := hg
    have ht' : ∀ (s : Shared) (H : Hp) (C : Addr) (cl : List (Str × Addr)) (fp : List Addr), PTs (X.blk s H scope (compEnvC scope cl C X.env) fp) ifs (tXT X.K t) := ht
    have he' : ∀ (s : Shared) (H : Hp) (C : Addr) (cl : List (Str × Addr)) (fp : List Addr), PE (X.blk s H scope (compEnvC scope cl C X.env) fp) elt (tX X.K e) := he
    pe_weak (pe_lc hc hN hi ok hg' ht' he' hs) fun σ H Q h => tLc_of h)
theorem xs_setC {i : Nat} {y : Str} {py : Pos} {elt tg iter : Expr} {ifs : List Expr} {scope : Scope} {own : List (Str × Nat)} {pos spos : Pos} {f : MI} {g : MG} {t : MT} {e : ME} (hc : X.calm = true) (hN : X.N.Nodup) (hy : X.N[i]? = some y) (hyl : X.env.scope.names.lookup y = some .local)
    (hsw : swapsWith (.ListComp elt [⟨tg, iter, ifs, 0⟩] scope pos) (some (.Name y py)) spos.line X.env = pure true) (hi : XI X f tg iter) (ok : BlkOk X.N X.env.scope scope own)
    (hg : BlkX X scope fun Y => XG Y (own.map (·.2)) g tg) (ht : BlkX X scope fun Y => XTs Y t ifs) (he : BlkX X scope fun Y => XE Y e elt) (hs : ∀ x, foldedSetIterable iter X.env x = pure x := by intro _; rfl) :
    XS X (sSet i (xComp f g t e (own.map (·.2)))) (.Assign [.Name y py] (.ListComp elt [⟨tg, iter, ifs, 0⟩] scope pos) spos) :=
  (
    have hg' : ∀ (s : Shared) (H : Hp) (C : Addr) (cl : List (Str × Addr)) (fp : List Addr), PG (X.blk s H scope (compEnvC scope cl C X.env) fp) tg (tG X.K (own.map (·.2)) g) := hg
    have ht' : ∀ (s : Shared) (H : Hp) (C : Addr) (cl : List (Str × Addr)) (fp : List Addr), PTs (X.blk s H scope (compEnvC scope cl C X.env) fp) ifs (tXT X.K t) := ht
    have he' : ∀ (s : Shared) (H : Hp) (C : Addr) (cl : List (Str × Addr)) (fp : List Addr), PE (X.blk s H scope (compEnvC scope cl C X.env) fp) elt (tX X.K e) := he
    ps_weak (ps_setLc hc hN hy hyl hsw hi ok hg' ht' he' hs) fun D σ H h => tLc_of (tSet_of h))
theorem xs_ownC {i : Nat} {y : Str} {py : Pos} {elt tg iter : Expr} {ifs : List Expr} {scope : Scope} {own : List (Str × Nat)} {pos spos : Pos} {f : MI} {g : MG} {t : MT} {e : ME} (hc : X.calm = true) (hN : X.N.Nodup) (hy : X.N[i]? = some y) (hyl : X.env.scope.names.lookup y = some .local)
    (hsw : swapsWith (.ListComp elt [⟨tg, iter, ifs, 0⟩] scope pos) (some (.Name y py)) spos.line X.env = pure true) (hi : XI X f tg iter) (ok : BlkOk X.N X.env.scope scope own)
    (hg : BlkX X scope fun Y => XG Y (own.map (·.2)) g tg) (ht : BlkX X scope fun Y => XTs Y t ifs) (he : BlkX X scope fun Y => XE Y e elt) (hs : ∀ x, foldedSetIterable iter X.env x = pure x := by intro _; rfl) :
    XS X (sOwn i (xComp f g t e (own.map (·.2)))) (.Assign [.Name y py] (.ListComp elt [⟨tg, iter, ifs, 0⟩] scope pos) spos) :=
  (
    have hg' : ∀ (s : Shared) (H : Hp) (C : Addr) (cl : List (Str × Addr)) (fp : List Addr), PG (X.blk s H scope (compEnvC scope cl C X.env) fp) tg (tG X.K (own.map (·.2)) g) := hg
    have ht' : ∀ (s : Shared) (H : Hp) (C : Addr) (cl : List (Str × Addr)) (fp : List Addr), PTs (X.blk s H scope (compEnvC scope cl C X.env) fp) ifs (tXT X.K t) := ht
    have he' : ∀ (s : Shared) (H : Hp) (C : Addr) (cl : List (Str × Addr)) (fp : List Addr), PE (X.blk s H scope (compEnvC scope cl C X.env) fp) elt (tX X.K e) := he
    ps_weak (ps_setLc hc hN hy hyl hsw hi ok hg' ht' he' hs) fun D σ H h => tLc_of (tOwn_of h))
end

/-! ### defs -/
abbrev MF := List Rv → Cs → Option (Rv × Cs)
/-- the def at f does as m says (m: the arguments, the cells) -/
structure FnD (P : Program) (w : World) (K : PySem.W.Frag) (mg : Str → Option Value) (base : Heap) (k : Nat) (f : Addr) (fd : FuncData) (ps : List Str) (m : MF) : Prop where
  run : ∀ (A : Around) (outer : List Env) (s : Shared) (H : Hp) (args : Args) (us : List Value) (vs : List V) (Q : VK) (rs : List Rv) (O : List (Option Addr)) (cs : Cs) (r : Rv) (cs' : Cs),
    A.guards = some [] → base.NoDigits → Room k A → Env0 P w K mg base A outer s H → BindsTo s fd args (ps.zip us) → Vals vs us → vs.length = ps.length → Wd K O cs H → ArRs K O H rs vs → m rs cs = some (r, cs') → PostX K O H r cs' Q →
    codeAny (model P w) A (.call (.ref f) args) (CR CX0 outer P w H s Q E0) s
theorem FnD.mono {P : Program} {w : World} {K : PySem.W.Frag} {mg : Str → Option Value} {base : Heap} {j k : Nat} {f : Addr} {fd : FuncData} {ps : List Str} {m : MF} (F : FnD P w K mg base j f fd ps m) (h : j ≤ k) : FnD P w K mg base k f fd ps m :=
  ⟨fun A outer s H args us vs Q rs O cs r cs' hg hn hr => F.run A outer s H args us vs Q rs O cs r cs' hg hn (hr.mono h)⟩
theorem FnD.imp {P : Program} {w : World} {K : PySem.W.Frag} {mg : Str → Option Value} {base : Heap} {k : Nat} {f : Addr} {fd : FuncData} {ps : List Str} {m m' : MF} (F : FnD P w K mg base k f fd ps m) (h : ∀ rs cs r, m' rs cs = some r → m rs cs = some r) : FnD P w K mg base k f fd ps m' :=
  ⟨fun A outer s H args us vs Q rs O cs r cs' hg hn hr e b v l wd a em p => F.run A outer s H args us vs Q rs O cs r cs' hg hn hr e b v l wd a (h _ _ _ em) p⟩
/-- a def's mirror from its body's -/
def fnM (n : Nat) (b : MS) : MF := fun rs cs => (b cs.length (rs.map some ++ List.replicate (n - rs.length) none) cs).bind fun o => match o with
  | .rt (.dat d) cs' => some (.dat d, cs'.take cs.length)
  | .rt (.own k) cs' => if cs.length ≤ k then (match cs'[k]? with
    | some (some c) => some (.fr c, cs'.take cs.length)
    | _ => none) else none
  | .nx _ cs' => some (.dat .none, cs'.take cs.length)
  | _ => none
theorem live_take {O : List (Option Addr)} {n : Nat} {a : Addr} (h : a ∈ live (O.take n)) : a ∈ live O := by
  obtain ⟨i, q⟩ := mem_live.mp h
  have hi : i < n := by
    have := (List.getElem?_eq_some_iff.mp q).1
    simp at this; omega
  rw [List.getElem?_take_of_lt hi] at q
  exact mem_live.mpr ⟨i, q⟩
theorem Wd.take {K : PySem.W.Frag} {O : List (Option Addr)} {cs : Cs} {H : Hp} (w : Wd K O cs H) (n : Nat) : Wd K (O.take n) (cs.take n) H := by
  have sb : ∀ a o, hd O H a = some o → hd (O.take n) H a = some o := fun a o h => by
    obtain ⟨m, e⟩ := hd_some h
    exact hd_of (fun z => m (live_take z)) e
  have get : ∀ {α : Type} {l : List α} {i : Nat} {x : α}, (l.take n)[i]? = some x → i < n ∧ l[i]? = some x := fun {α l i x} q => by
    have hi : i < n := by
      have := (List.getElem?_eq_some_iff.mp q).1
      simp at this; omega
    rw [List.getElem?_take_of_lt hi] at q
    exact ⟨hi, q⟩
  refine ⟨by simp [w.len], fun i j a h1 h2 => w.inj i j a (get h1).2 (get h2).2, fun i a h => ?_, fun i h => ?_⟩
  · obtain ⟨hi, q⟩ := get h
    obtain ⟨c, vs, h1, h2, h3⟩ := w.cell i a q
    exact ⟨c, vs, by rw [List.getElem?_take_of_lt hi]; exact h1, h2, h3.mono sb⟩
  · obtain ⟨hi, q⟩ := get h
    rw [List.getElem?_take_of_lt hi]; exact w.ded i q
theorem Ext.take_eq {n0 : Nat} {O O' : List (Option Addr)} {H : Hp} (e : Ext n0 O O' H) (h : n0 = O.length) : O'.take n0 = O := by
  apply List.ext_getElem?
  intro i
  by_cases hi : i < n0
  · rw [List.getElem?_take_of_lt hi]; exact e.pre i hi
  · rw [List.getElem?_eq_none (by simp; omega), List.getElem?_eq_none (by omega)]
/-- the result of a body, for the caller -/
theorem body_end {K : PySem.W.Frag} {O O' : List (Option Addr)} {cs cs' : Cs} {H H' : Hp} {r r0 : Rv} {v : V} (w : Wd K O cs H) (ex : Ext cs.length O O' H) (c : Ch O H H') (w' : Wd K O' cs' H') (ar : ArR K O' r0 v H')
    (h : (∃ d, r0 = .dat d ∧ r = .dat d) ∨ ∃ k l, r0 = .own k ∧ cs.length ≤ k ∧ cs'[k]? = some (some l) ∧ r = .fr l) : Wd K O (cs'.take cs.length) H' ∧ RvR K O H (cs'.take cs.length) r v H' := by
  have eO : O'.take cs.length = O := ex.take_eq w.len
  have w2 := w'.take cs.length
  rw [eO] at w2
  have sb : ∀ a o, hd O' H' a = some o → hd O H' a = some o := fun a o q => by
    obtain ⟨m, e⟩ := hd_some q
    exact hd_of (fun z => m (live_take (n := cs.length) (by rw [eO]; exact z))) e
  refine ⟨w2, ?_⟩
  rcases h with ⟨d, rfl, rfl⟩ | ⟨k, l, rfl, hk, hl, rfl⟩
  · exact Rp.mono sb ar
  · obtain ⟨p, rfl, hp⟩ := ar
    obtain ⟨l', vs, h1, h2, h3⟩ := w'.cell k p hp
    rw [hl] at h1; cases h1
    have np : p ∉ live O := fun z => by
      obtain ⟨i, q⟩ := mem_live.mp z
      have hi : i < cs.length := by rw [w.len]; exact (List.getElem?_eq_some_iff.mp q).1
      have q' : O'[i]? = some (some p) := by rw [ex.pre i hi]; exact q
      have := w'.inj i k p q' hp
      omega
    have hn : H p = none := by
      rcases ex.sub p (mem_live.mpr ⟨k, hp⟩) with z | z
      · exact absurd z np
      · exact z
    refine ⟨p, rfl, hn, ?_⟩
    have hlen : (cs'.take cs.length).length = O.length := w2.len
    have sp : ∀ {i : Nat} {x : Option Addr}, (O ++ [some p])[i]? = some x → (i < O.length ∧ O[i]? = some x ∧ O'[i]? = some x) ∨ (i = O.length ∧ x = some p) := fun {i x} q => by
      by_cases hi : i < O.length
      · rw [List.getElem?_append_left hi] at q
        exact .inl ⟨hi, q, by rw [ex.pre i (by rw [w.len]; exact hi)]; exact q⟩
      · rw [List.getElem?_append_right (by omega)] at q
        have h0 : i - O.length = 0 := by
          have := (List.getElem?_eq_some_iff.mp q).1
          simp at this; omega
        rw [h0] at q
        simp at q
        exact .inr ⟨by omega, q.symm⟩
    have sb2 : ∀ a o, hd O' H' a = some o → hd (O ++ [some p]) H' a = some o := fun a o q => by
      obtain ⟨m, e⟩ := hd_some q
      refine hd_of (fun z => ?_) e
      obtain ⟨i, q2⟩ := mem_live.mp z
      rcases sp q2 with ⟨_, _, q3⟩ | ⟨_, q3⟩
      · exact m (mem_live.mpr ⟨i, q3⟩)
      · cases q3; exact m (mem_live.mpr ⟨k, hp⟩)
    refine ⟨by simp [hlen], fun i j a a1 a2 => ?_, fun i a a1 => ?_, fun i a1 => ?_⟩
    · rcases sp a1 with ⟨i1, i2, _⟩ | ⟨i1, i2⟩ <;> rcases sp a2 with ⟨j1, j2, _⟩ | ⟨j1, j2⟩
      · exact w.inj i j a i2 j2
      · cases j2; exact absurd (mem_live.mpr ⟨i, i2⟩) np
      · cases i2; exact absurd (mem_live.mpr ⟨j, j2⟩) np
      · omega
    · rcases sp a1 with ⟨i1, i2, i3⟩ | ⟨i1, i2⟩
      · obtain ⟨c', vs', q1, q2, q3⟩ := w'.cell i a i3
        refine ⟨c', vs', ?_, q2, q3.mono sb2⟩
        rw [List.getElem?_append_left (by rw [hlen]; exact i1), List.getElem?_take_of_lt (by rw [w.len]; exact i1)]
        exact q1
      · cases i2
        refine ⟨l, vs, ?_, h2, h3.mono sb2⟩
        rw [i1, ← hlen]; simp
    · rcases sp a1 with ⟨i1, i2, i3⟩ | ⟨i1, i2⟩
      · rw [List.getElem?_append_left (by rw [hlen]; exact i1)]
        exact w2.ded i i2
      · cases i2
theorem start_env {K : PySem.W.Frag} {O : List (Option Addr)} {H : Hp} {N : List Str} : ∀ {rs : List Rv} {vs : List V}, ArRs K O H rs vs → EnvOk K O H (rs.map some ++ List.replicate (N.length - rs.length) none) (L2.start N vs) := fun {rs vs} h => by
  have hl := h.length
  unfold L2.start
  refine ⟨by simp [hl], fun i r hi => ?_⟩
  by_cases c : i < rs.length
  · rw [List.getElem?_append_left (by simpa using c), List.getElem?_map] at hi
    rw [List.getElem?_append_left (by simp; omega), List.getElem?_map]
    have : ∀ {rs : List Rv} {vs : List V} {i : Nat} {r : Rv}, ArRs K O H rs vs → rs[i]? = some r → ∃ v, vs[i]? = some v ∧ ArR K O r v H := by
      intro rs
      induction rs with
      | nil => intro vs i r _ e; simp at e
      | cons r0 rs ih =>
        intro vs i r a e
        cases vs with
        | nil => exact a.elim
        | cons v vs =>
          cases i with
          | zero => simp at e; subst e; exact ⟨v, rfl, a.1⟩
          | succ i =>
            obtain ⟨u, h1, h2⟩ := ih a.2 (by simpa using e)
            exact ⟨u, by simpa using h1, h2⟩
    cases q : rs[i]? with
    | none => rw [q] at hi; cases hi
    | some r1 =>
      rw [q] at hi
      cases hi
      obtain ⟨v, h1, h2⟩ := this h q
      exact ⟨v, by rw [h1]; rfl, h2⟩
  · rw [List.getElem?_append_right (by simpa using c), List.getElem?_replicate] at hi
    split at hi <;> cases hi
/-- the context of a body -/
abbrev cxD (P : Program) (w : World) (K : PySem.W.Frag) (mg : Str → Option Value) (base : Heap) (N : List Str) (qual : Str) (scope : Scope) (f : Addr) (cdv : Value) (A : Around) (outer : List Env) (s : Shared) (H : Hp) : Cx :=
  (cxOf CX0 P w K mg base N qual scope f cdv A outer s H E0).nox
theorem fnD_of {P : Program} {w : World} {K : PySem.W.Frag} {mg : Str → Option Value} {base : Heap} {k : Nat} {f : Addr} {x qual : Str} {params : Arguments} {body : List Stmt} {scope : Scope} {dvs : List V} {kws : List (Str × V)} {fd : FuncData} {N ps : List Str} {b : MS}
    (F : FunD K x qual params body scope dvs kws f fd) (S : FnScope N ps scope)
    (hb : ∀ (cdv : Value) (A : Around) (outer : List Env) (s : Shared) (H : Hp), Room k (A.deeper (envOfC qual scope s.heap.objs.size f cdv)) → Rm (cxD P w K mg base N qual scope f cdv A outer s H) → XSs (cxD P w K mg base N qual scope f cdv A outer s H) b body) :
    FnD P w K mg base (k + 1) f fd ps (fnM N.length b) := by
  obtain ⟨oc, od, dV, kV, doc, pm, an, cdv, ct, osl, rfl, lk, hcd, _, _⟩ := F.ex
  refine ⟨fun A outer s H args us vs Q rs O cs r cs' hg hnd hr e0 hbd rv hl wd ar em p => ?_⟩
  have KX : K.In s.heap := e0.mod.kin.keeps fun a o e => (e0.bs a o e).1
  have lim : s.heap.NoLimit := e0.mod.nolimit.keeps fun a o e => (e0.bs a o e).1
  refine codeAny_call_function hr.depth (KX _ _ lk) rfl S.co S.gen rfl (PySem.W.codeRec_of KX hcd) (hbd _ _ _ _ ?_)
  refine wpAny_newFunctionEnv_cells S.kind (fun y hy => ?_) fun env he s1 xx => ?_
  · rcases S.par y.1 (List.of_mem_zip hy).1 with q | q
    · exact .inl q
    · exact .inr ⟨q, PySem.W.cellsFrom_some _ _ _ (.inl q)⟩
  · subst he
    refine ⟨lim.keeps xx.toInCall.keep, codeAny_func ?_⟩
    have I := inv_start (CX := CX0) (E := E0) (qual := qual) (f := f) (cd := cdv) (outer := outer) S hr.hd e0 hl rv xx
    have hr' := hr.deeper (envOfC qual scope s.heap.objs.size f cdv)
    have rm : Rm (cxD P w K mg base N qual scope f cdv A outer s H) := ⟨hr.hd, by
      have := hr'.un
      show (A.deeper (envOfC qual scope s.heap.objs.size f cdv)).units + 200 < cLine
      omega, by show A.guards = some []; exact hg, rfl, hnd⟩
    have hbody := PSs.nox (hb cdv A outer s H hr' rm)
    unfold fnM at em
    obtain ⟨o, h1, h2⟩ := Option.bind_eq_some_iff.mp em
    have hpost : PostS K cs.length O H o { nx := fun _ H' => Q .non H', rt := Q } := by
      cases o with
      | rt r0 cs1 =>
        intro v O' H' ex c w' ar'
        cases r0 with
        | dat d =>
          cases h2
          obtain ⟨a1, a2⟩ := body_end (r := .dat d) wd ex c w' ar' (.inl ⟨d, rfl, rfl⟩)
          exact p v H' c a1 a2
        | own j =>
          have h3 : (if cs.length ≤ j then (match cs1[j]? with
            | some (some c) => some (Rv.fr c, cs1.take cs.length)
            | _ => none) else none) = some (r, cs') := h2
          by_cases hj : cs.length ≤ j
          · rw [if_pos hj] at h3
            split at h3
            · rename_i l hl'
              cases h3
              obtain ⟨a1, a2⟩ := body_end (r := .fr l) wd ex c w' ar' (.inr ⟨j, l, rfl, hj, hl', rfl⟩)
              exact p v H' c a1 a2
            · cases h3
          · rw [if_neg hj] at h3; cases h3
        | fr l => cases h2
        | exn nm d => cases h2
      | nx ρ1 cs1 =>
        cases h2
        intro σ' O' H' ex c en' w'
        obtain ⟨a1, a2⟩ := body_end (r0 := .dat .none) (r := .dat .none) (v := .non) wd ex c w' .non (.inl ⟨_, rfl, rfl⟩)
        exact p .non H' c a1 a2
      | bk _ _ => cases h2
      | ct _ _ => cases h2
    refine wpAny_mono (hbody.run [] s1 (L2.start N vs) H { nx := fun _ H' => Q .non H', rt := Q } I ⟨cs.length, _, O, cs, o, h1, by rw [wd.len]; exact Nat.le_refl _, start_env ar, wd, hpost⟩) (fun fl s' hs => ?_) fun e s' hs => hs
    cases fl with
    | ret u =>
      obtain ⟨v, σ', H', J, rv', q⟩ := hs
      exact ⟨v, H', J.os, J.bare, J.base, J.hok, rv', q⟩
    | next =>
      obtain ⟨σ', H', J, q⟩ := hs
      exact ⟨V.non, H', J.os, J.bare, J.base, J.hok, rfl, q⟩
    | brk =>
      obtain ⟨_, _, _, q⟩ := hs
      exact q.elim
    | cont =>
      obtain ⟨_, _, _, q⟩ := hs
      exact q.elim
/-! calls -/
section
variable {X : Cx}
def mCallF (n : Nat) (m : MF) (fa : MA) : ME := fun ρ cs => (fa ρ cs).bind fun p => if p.1.length = n then m p.1 p.2 else none
theorem fnD_call {k : Nat} {f : Addr} {fd : FuncData} {ps : List Str} {m : MF} {pins : List (Addr × Obj)} {σ : L2.St} {H : Hp} {s : Shared} {Q : VK} {args : Args} {us : List Value} {vs : List V} {rs : List Rv} {O : List (Option Addr)} {cs cs' : Cs} {r : Rv} (F : FnD X.prog X.w X.K X.mg X.base k f fd ps m) (hr : Room k X.A) (hg : X.A.guards = some []) (hnd : X.base.NoDigits)
    (I : Inv X pins σ H s) (hb : BindsTo s fd args (ps.zip us)) (rv : Vals vs us) (hl : vs.length = ps.length) (wd : Wd X.K O cs H) (ar : ArRs X.K O H rs vs) (em : m rs cs = some (r, cs')) (p : PostX X.K O H r cs' Q) :
    codeAny (model X.prog X.w) X.A (.call (.ref f) args) (fun r s' => match r with
      | .ok (.ret u) => EP X pins σ Q u s'
      | .ok _ => False
      | .error e => X.xe e s') s := by
  refine codeAny_mono (F.run X.A X.stack s H args us vs Q rs O cs r cs' hg hnd hr I.env0 hb rv hl wd ar em p) fun res s' hq => ?_
  cases res with
  | error e => exact hq.elim
  | ok fl =>
    cases fl with
    | ret u => exact I.after hq
    | next => exact hq
    | brk => exact hq
    | cont => exact hq
end
end DL
namespace DL
open PySem PySem.Spec PyProof.Rows L2
def ArgP (K : PySem.W.Frag) (O : List (Option Addr)) (H : Hp) (cs1 : Cs) (rs : List Rv) (vs : List V) (H' : Hp) : Prop := Ch O H H' ∧ Wd K O cs1 H' ∧ ArRs K O H' rs vs
section
variable {X : Cx}
theorem ite_none {α : Type} {c : Prop} [Decidable c] {a : Option α} {b : α} (h : (if c then a else none) = some b) : c ∧ a = some b := by
  split at h
  · exact ⟨by assumption, h⟩
  · cases h
theorem call_end {k : Nat} {f : Addr} {fd : FuncData} {ps : List Str} {m : MF} {pins : List (Addr × Obj)} {σ : L2.St} {H : Hp} {s : Shared} {Q : VK} {us : List Value} {kw : List (Str × Value)} {us2 : List Value} {vs : List V} {rs : List Rv} {O : List (Option Addr)} {cs cs' : Cs} {r : Rv} (F : FnD X.prog X.w X.K X.mg X.base k f fd ps m) (hr : Room k X.A) (hg : X.A.guards = some []) (hnd : X.base.NoDigits)
    (I : Inv X pins σ H s) (hb : BindsTo s fd ⟨us, kw⟩ (ps.zip us2)) (rv : Vals vs us2) (hl : rs.length = ps.length) (wd : Wd X.K O cs H) (ar : ArRs X.K O H rs vs) (em : m rs cs = some (r, cs')) (p : PostX X.K O H r cs' Q) :
    wpAny (model X.prog X.w) X.A (call (.ref f) us kw) (EP X pins σ Q) X.xe s := by
  refine wpAny_call (codeAny_mono (fnD_call F hr hg hnd I hb rv (by rw [← ar.length]; exact hl) wd ar em p) fun r s' hq => ?_)
  cases r with
  | error e => exact hq
  | ok fl => cases fl with
    | ret u => exact hq
    | next => exact hq
    | brk => exact hq
    | cont => exact hq
theorem xe_call {k : Nat} {f : Addr} {fd : FuncData} {ps : List Str} {m : MF} {x : Str} {e : Expr} {es : List Expr} {fa : MA} {p pos : Pos} (F : FnD X.prog X.w X.K X.mg X.base k f fd ps m) (hr : Room k X.A) (rm : Rm X) (hg : Gl X x) (hm : X.mg x = some (.ref f)) (hk : PySem.W.keepIn X.K (.ref f) = true)
    (hb : Binds X.K fd ps []) (ha : XA X fa (e :: es)) (hdb : (x == ("__debug__" : Str)) = false := by decide)
    (he : starEach (e :: es) X.env = (false, eval e X.env) :: starEach es X.env := by rfl) (hpl : (backTo pos (starEach es X.env)).any (·.1) = false := by rfl) : XE X (mCallF ps.length m fa) (.Call (.Name x p) (e :: es) [] pos) := by
  refine ⟨fun pins s σ H Q I ⟨ρ, O, cs, r, cs', e0, en, w, pq⟩ => ?_⟩
  obtain ⟨⟨rs, cs1⟩, h1, h2⟩ := Option.bind_eq_some_iff.mp e0
  obtain ⟨hl, em⟩ := ite_none h2
  refine wpAny_Call_Name_kw (ld_glob I hg hm ?_ hdb)
  have hrun := ha.run pos pins s σ H (ArgP X.K O H cs1 rs) I ⟨ρ, O, cs, rs, cs1, h1, en, w, fun vs H' c w' ra => ⟨c, w', ra⟩⟩
  refine PySem.W.callWith_K (h₀ := X.base) I.ok.mod.kin hk (thn hrun fun us s1 hus => ?_) he hpl
  obtain ⟨vs, H1, I1, rv, c1, w1, ra⟩ := hus
  refine ⟨I1.kIn, ?_⟩
  have hb' := hb s1 us I1.kIn (by rw [List.append_nil, ← rv.length, ← ra.length]; exact hl)
  rw [List.append_nil] at hb'
  exact call_end F hr rm.gd rm.nd I1 hb' rv hl w1 ra em (pq.step c1 w1)
theorem xe_call0 {k : Nat} {f : Addr} {fd : FuncData} {ps : List Str} {m : MF} {x : Str} {p pos : Pos} (F : FnD X.prog X.w X.K X.mg X.base k f fd ps m) (hr : Room k X.A) (rm : Rm X) (hg : Gl X x) (hm : X.mg x = some (.ref f)) (hk : PySem.W.keepIn X.K (.ref f) = true)
    (hb : Binds X.K fd ps []) (hdb : (x == ("__debug__" : Str)) = false := by decide) : XE X (mCallF ps.length m aNil) (.Call (.Name x p) [] [] pos) := by
  refine ⟨fun pins s σ H Q I ⟨ρ, O, cs, r, cs', e0, en, w, pq⟩ => ?_⟩
  obtain ⟨⟨rs, cs1⟩, h1, h2⟩ := Option.bind_eq_some_iff.mp e0
  cases h1
  obtain ⟨hl, em⟩ := ite_none h2
  refine wpAny_Call_Name_kw (ld_glob I hg hm ?_ hdb)
  have hb' := hb s [] I.kIn (by simpa using hl)
  exact PySem.W.callWith_K0 I.kIn hk (call_end F hr rm.gd rm.nd I hb' .nil hl w trivial em pq)
/-! keywords -/
def pick {α : Type} (π : List Nat) (l : List α) : List α := π.filterMap fun i => l[i]?
theorem pick_vals {π : List Nat} {vs : List V} {us : List Value} (h : Vals vs us) : Vals (pick π vs) (pick π us) := by
  induction π with
  | nil => exact .nil
  | cons i π ih =>
    unfold pick at ih ⊢
    rw [List.filterMap_cons, List.filterMap_cons]
    cases q : vs[i]? with
    | none => rw [h.none_of q]; exact ih
    | some v =>
      obtain ⟨u, h1, h2⟩ := h.get q
      rw [h1]
      exact .cons h2 ih
theorem ArRs.get {K : PySem.W.Frag} {O : List (Option Addr)} {H : Hp} : ∀ {rs : List Rv} {vs : List V}, ArRs K O H rs vs → ∀ i : Nat, (rs[i]? = none ∧ vs[i]? = none) ∨ ∃ r v, rs[i]? = some r ∧ vs[i]? = some v ∧ ArR K O r v H
  | [], [], _, i => .inl ⟨by simp, by simp⟩
  | r :: rs, v :: vs, h, 0 => .inr ⟨r, v, rfl, rfl, h.1⟩
  | r :: rs, v :: vs, h, i + 1 => by
    rcases ArRs.get h.2 i with ⟨a, b⟩ | ⟨a, b, c, d, e⟩
    · exact .inl ⟨by simpa using a, by simpa using b⟩
    · exact .inr ⟨a, b, by simpa using c, by simpa using d, e⟩
  | [], _ :: _, h, _ => h.elim
  | _ :: _, [], h, _ => h.elim
theorem pick_ar {K : PySem.W.Frag} {O : List (Option Addr)} {H : Hp} {π : List Nat} {rs : List Rv} {vs : List V} (h : ArRs K O H rs vs) : ArRs K O H (pick π rs) (pick π vs) := by
  induction π with
  | nil => exact trivial
  | cons i π ih =>
    unfold pick at ih ⊢
    rw [List.filterMap_cons, List.filterMap_cons]
    rcases h.get i with ⟨a, b⟩ | ⟨r, v, a, b, c⟩
    · rw [a, b]; exact ih
    · rw [a, b]; exact ⟨c, ih⟩
theorem ArRs.append {K : PySem.W.Frag} {O : List (Option Addr)} {H : Hp} : ∀ {rs ss : List Rv} {vs us : List V}, ArRs K O H rs vs → ArRs K O H ss us → ArRs K O H (rs ++ ss) (vs ++ us)
  | [], _, [], _, _, b => b
  | _ :: _, _, _ :: _, _, a, b => ⟨a.1, ArRs.append a.2 b⟩
  | [], _, _ :: _, _, a, _ => a.elim
  | _ :: _, _, [], _, a, _ => a.elim
/-- us by position, then ks: in the parameters' order by π -/
structure KwB (K : PySem.W.Frag) (fd : FuncData) (ps : List Str) (n : Nat) (ks : List Str) (π : List Nat) : Prop where
  to : ∀ (s : Shared) (us ws : List Value), K.In s.heap → us.length = n → ws.length = ks.length → BindsTo s fd ⟨us, ks.zip ws⟩ (ps.zip (pick π (us ++ ws)))
def XK (X : Cx) (f : MA) (kws : List Keyword) : Prop := PK X kws (tXA X.K f)
theorem pk_weak {es : List Keyword} {t t' : TA} (h : PK X es t) (w : ∀ σ H Q, t' σ H Q → t σ H Q) : PK X es t' := ⟨fun pos pins s σ H Q I q => h.run pos pins s σ H Q I (w _ _ _ q)⟩
theorem xk_nil : XK X aNil [] := pk_weak pk_nil fun σ H Q ⟨ρ, O, cs, rs, cs', e, en, w, p⟩ => by
  cases e
  exact p [] H .refl w trivial
theorem xk_cons {nm : Option Str} {e : Expr} {kpos : Pos} {kws : List Keyword} {fa : ME} {fr : MA} (ha : XE X fa e) (hr : XK X fr kws) : XK X (aCons fa fr) (⟨nm, e, kpos⟩ :: kws) := pk_weak (pk_cons ha hr) fun σ H Q h => tCons_of h
def mCallK (n k q : Nat) (π : List Nat) (m : MF) (fa fk : MA) : ME := fun ρ cs => (fa ρ cs).bind fun p => (fk ρ p.2).bind fun z => if p.1.length = n ∧ z.1.length = k ∧ (pick π (p.1 ++ z.1)).length = q then m (pick π (p.1 ++ z.1)) z.2 else none
theorem xe_callK {k n : Nat} {ks : List Str} {π : List Nat} {f : Addr} {fd : FuncData} {ps : List Str} {m : MF} {x : Str} {e : Expr} {es : List Expr} {kws : List Keyword} {fa fk : MA} {p pos : Pos} (F : FnD X.prog X.w X.K X.mg X.base k f fd ps m) (hr : Room k X.A) (rm : Rm X) (hg : Gl X x) (hm : X.mg x = some (.ref f)) (hk : PySem.W.keepIn X.K (.ref f) = true)
    (hb : KwB X.K fd ps n ks π) (ha : XA X fa (e :: es)) (hkw : XK X fk kws) (hall : (backToKw pos (keywordEach kws X.env)).all (·.1.isSome) = true := by rfl) (hks : (backToKw pos (keywordEach kws X.env)).filterMap (·.1) = ks := by rfl)
    (hdb : (x == ("__debug__" : Str)) = false := by decide) (he : starEach (e :: es) X.env = (false, eval e X.env) :: starEach es X.env := by rfl)
    (hpl : ((backTo pos (starEach (e :: es) X.env)).any (·.1) || (backToKw pos (keywordEach kws X.env)).any (·.1.isNone)) = false := by rfl) : XE X (mCallK n ks.length ps.length π m fa fk) (.Call (.Name x p) (e :: es) kws pos) := by
  refine ⟨fun pins s σ H Q I ⟨ρ, O, cs, r, cs', e0, en, w, pq⟩ => ?_⟩
  obtain ⟨⟨rs, cs1⟩, h1, e1⟩ := Option.bind_eq_some_iff.mp e0
  obtain ⟨⟨zs, cs2⟩, h2, e2⟩ := Option.bind_eq_some_iff.mp e1
  obtain ⟨hl, em⟩ := ite_none e2
  refine wpAny_Call_Name_kw (ld_glob I hg hm ?_ hdb)
  have hrun := ha.run pos pins s σ H (ArgP X.K O H cs1 rs) I ⟨ρ, O, cs, rs, cs1, h1, en, w, fun vs H' c w' ra => ⟨c, w', ra⟩⟩
  refine PySem.W.callWith_KW (h₀ := X.base) I.ok.mod.kin hk hall (thn hrun fun us s1 hus => ?_) hpl he
  obtain ⟨vs, H1, I1, rv, c1, w1, ra⟩ := hus
  have hrun2 := hkw.run pos pins s1 σ H1 (ArgP X.K O H1 cs2 zs) I1 ⟨ρ, O, cs1, zs, cs2, h2, en.ch c1, w1, fun vs H' c w' ra => ⟨c, w', ra⟩⟩
  refine thn hrun2 fun ws s2 hws => ?_
  obtain ⟨ys, H2, I2, rz, c2, w2, rb⟩ := hws
  refine ⟨I2.kIn, ?_⟩
  rw [hks]
  have hb' := hb.to s2 us ws I2.kIn (by rw [← rv.length, ← ra.length]; exact hl.1) (by rw [← rz.length, ← rb.length]; exact hl.2.1)
  exact call_end F hr rm.gd rm.nd I2 hb' (pick_vals (rv.append rz)) hl.2.2 w2 (pick_ar ((ra.ch c2).append rb)) em (pq.step (c1.trans c2) w2)
theorem xe_callK0 {k : Nat} {ks : List Str} {π : List Nat} {f : Addr} {fd : FuncData} {ps : List Str} {m : MF} {x : Str} {kws : List Keyword} {fk : MA} {p pos : Pos} (F : FnD X.prog X.w X.K X.mg X.base k f fd ps m) (hr : Room k X.A) (rm : Rm X) (hg : Gl X x) (hm : X.mg x = some (.ref f)) (hk : PySem.W.keepIn X.K (.ref f) = true)
    (hb : KwB X.K fd ps 0 ks π) (hkw : XK X fk kws) (hall : (backToKw pos (keywordEach kws X.env)).all (·.1.isSome) = true := by rfl) (hks : (backToKw pos (keywordEach kws X.env)).filterMap (·.1) = ks := by rfl)
    (hdb : (x == ("__debug__" : Str)) = false := by decide)
    (hpl : ((backTo pos (starEach [] X.env)).any (·.1) || (backToKw pos (keywordEach kws X.env)).any (·.1.isNone)) = false := by rfl) : XE X (mCallK 0 ks.length ps.length π m aNil fk) (.Call (.Name x p) [] kws pos) := by
  refine ⟨fun pins s σ H Q I ⟨ρ, O, cs, r, cs', e0, en, w, pq⟩ => ?_⟩
  obtain ⟨⟨rs, cs1⟩, h1, e1⟩ := Option.bind_eq_some_iff.mp e0
  cases h1
  obtain ⟨⟨zs, cs2⟩, h2, e2⟩ := Option.bind_eq_some_iff.mp e1
  obtain ⟨hl, em⟩ := ite_none e2
  refine wpAny_Call_Name_kw (ld_glob I hg hm ?_ hdb)
  have hrun2 := hkw.run pos pins s σ H (ArgP X.K O H cs2 zs) I ⟨ρ, O, cs, zs, cs2, h2, en, w, fun vs H' c w' ra => ⟨c, w', ra⟩⟩
  refine PySem.W.callWith_KW0 (h₀ := X.base) I.ok.mod.kin hk hall (thn hrun2 fun ws s2 hws => ?_) hpl
  obtain ⟨ys, H2, I2, rz, c2, w2, rb⟩ := hws
  refine ⟨I2.kIn, ?_⟩
  rw [hks]
  have hb' := hb.to s2 [] ws I2.kIn rfl (by rw [← rz.length, ← rb.length]; exact hl.2.1)
  exact call_end F hr rm.gd rm.nd I2 hb' (pick_vals (π := π) rz) hl.2.2 w2 (pick_ar (π := π) rb) em (pq.step c2 w2)
end
end DL
namespace DL
open PySem PySem.Spec PyProof.Rows L2
section
variable {X : Cx}
/-! isinstance -/
def tyN : D → String
  | .none => "NoneType"
  | .bool _ => "bool"
  | .int _ => "int"
  | .str _ => "str"
  | .list _ => "list"
  | .tuple _ => "tuple"
  | .dict kvs => if isFn kvs = true then "function" else "dict"
/-- a value's type, a def's object too -/
def TyF (K : PySem.W.Frag) (H : Hp) (v : V) (t : Value) : Prop := TyX K H v t ∨ ∃ (f : Addr) (o : Obj), v = .ref f ∧ t = .type "function" ∧ K.lookup f = some o ∧ o.cls = .type "function"
theorem kit_ofF {pins : List (Addr × Obj)} {σ : L2.St} {H : Hp} {s : Shared} {x : V} {u t : Value} (I : Inv X pins σ H s) (rx : RelV x u) (ty : TyF X.K H x t) : ∃ P : Heap → Prop, PySem.W.KitX X.K u t P ∧ P s.heap ∧ u ≠ .builtin "__main__.__loader__#opaque" := by
  rcases ty with ty | ⟨f, o, rfl, rfl, h1, h2⟩
  · exact kit_of I rx ty
  · cases (show u = Value.ref f from rx)
    exact ⟨_, fk_kit, ⟨o, I.kIn _ _ h1, h2⟩, fun z => nomatch z⟩
def rIsF (K : PySem.W.Frag) : List V → Hp → VK → Prop := fun xs H Q => ∃ (x c : V) (t u : Value) (b : Bool), xs = [x, c] ∧ ClsV c u ∧ TyF K H x t ∧ PySem.W.kitOne K t u = some b ∧ Q (.bl b) H
def rIsTF (K : PySem.W.Frag) : List V → Hp → VK → Prop := fun xs H Q => ∃ (x : V) (tp : Addr) (cs : List V) (t : Value) (us : List Value) (b : Bool), xs = [x, .ref tp] ∧ H tp = some (.tup cs) ∧ Paired ClsV cs us ∧ TyF K H x t ∧ PySem.W.kitAny K t us = some b ∧ Q (.bl b) H
theorem call_isTF : CallR X (.builtin "isinstance") (rIsTF X.K) := by
  intro pins s σ H xs us Q I r h
  obtain ⟨x, tp, cs, t, ws, b, rfl, hT, k, ty, e, q⟩ := h
  obtain ⟨u1, u2, rfl, r1, r2⟩ := vals2 r
  cases (show u2 = Value.ref tp from r2)
  obtain ⟨P, Z, p, hx⟩ := kit_ofF I r1 ty
  obtain ⟨_, its, rv, o, h1, h2, n, h3⟩ := (show ObjOk X.prog X.w H s.heap tp (.tup cs) from I.hok tp _ hT)
  have e3 := ClsV.all k rv
  subst e3
  obtain ⟨oc, od, dt, sl⟩ := o
  simp only at h2 h3
  subst h2 h3
  exact PySem.W.kia_tup Z I.kIn p h1 e hx fun tk => ⟨.bl b, H, I.tok tk, rfl, q⟩
theorem call_isF : CallR X (.builtin "isinstance") (rIsF X.K) := by
  intro pins s σ H xs us Q I r h
  obtain ⟨x, c, t, u, b, rfl, k, ty, e, q⟩ := h
  obtain ⟨u1, u2, rfl, r1, r2⟩ := vals2 r
  have e2 := k.eq r2
  subst e2
  obtain ⟨P, Z, p, hx⟩ := kit_ofF I r1 ty
  exact PySem.W.kia_one Z I.kIn p e hx fun tk => ⟨.bl b, H, I.tok tk, rfl, q⟩
theorem tyX_of {K : PySem.W.Frag} {O : List (Option Addr)} {H : Hp} {v : V} {d : D} (h : Sh K O H v d) : TyF K H v (.type (tyN d)) := by
  cases d with
  | none => cases h.none; exact .inl (.base .non)
  | bool b => cases h.bool; exact .inl (.base (.bl b))
  | int i => cases h.int; exact .inl (.base (.int i))
  | str x => obtain ⟨rfl, _⟩ := h.str; exact .inl (.base (.str x))
  | list ds =>
    obtain ⟨a, vs, rfl, q, _⟩ := h.list
    rcases q with (q | ⟨o, q⟩) | ⟨its, n, q, _⟩
    · exact .inl (.base (.lst q))
    · exact .inl (.base (.frz q))
    · exact .inl (.kList q rfl)
  | tuple ds =>
    obtain ⟨a, vs, rfl, q, _⟩ := h.tuple
    rcases q with (q | ⟨o, q⟩) | ⟨o, its, n, q, hc, _⟩
    · exact .inl (.base (.tup q))
    · exact .inl (.fTuple q)
    · exact .inl (.kTuple q hc)
  | dict ds =>
    by_cases hf : isFn ds = true
    · have e : tyN (.dict ds) = "function" := if_pos hf
      rw [e]
      rcases h with h | ⟨a, vs, ds', rfl, e, h1, h2⟩
      · cases h with
        | @dct _ _ kvs _ q e r =>
          exfalso
          unfold isFn at hf
          split at hf
          · cases kvs with
            | nil => cases e
            | cons p r' =>
              obtain ⟨k, v⟩ := p
              simp at e
              cases k <;> cases e.1
          · cases hf
        | fn q =>
          obtain ⟨o, h1, h2⟩ := Option.map_eq_some_iff.mp q.2
          exact .inr ⟨_, o, rfl, rfl, h1, h2⟩
      · cases e
    · have e : tyN (.dict ds) = "dict" := if_neg hf
      rw [e]
      obtain ⟨a, kvs, rfl, q, _⟩ := h.dict (by simpa using hf)
      rcases q with q | ⟨o, q⟩
      · exact .inl (.base (.dK q))
      · exact .inl (.fDict q)
def dIsi (T : String) (d : D) : Option Rv := (kitB (tyN d) T).map db
theorem xe_isi {T : String} {e : Expr} {x : Str} {f : ME} {p pt pos : Pos} (hg : Gl X "isinstance") (hm : X.mg "isinstance" = none) (hx : Gl X x) (hmx : X.mg x = none) (hv : bootBuiltins x = some (.type T)) (he : XE X f e)
    (hn : x ≠ "__name__" := by decide) (hd : (x == ("__debug__" : Str)) = false := by decide)
    (h1 : starEach [e, .Name x pt] X.env = (false, eval e X.env) :: starEach [.Name x pt] X.env := by rfl) (hpl : (backTo pos (starEach [.Name x pt] X.env)).any (·.1) = false := by rfl) :
    XE X (mU (dIsi T) f) (.Call (.Name "isinstance" p) [e, .Name x pt] [] pos) :=
  pe_weak (pe_callB call_isF hg hm (by decide +kernel) (pa_cons he (pa_cons (pe_bltn hx hmx hv (v := .ty T) rfl hn hd) pa_nil) h1) (he := h1) (hpl := hpl)) fun σ H Q ⟨ρ, O, cs, z, cs', e0, en, w, p⟩ => by
    obtain ⟨r, d, g1, g2, g3⟩ := mU_some e0
    obtain ⟨b, g4, rfl⟩ := Option.map_eq_some_iff.mp g3
    exact ⟨ρ, O, cs, r, cs', g1, en, w, fun v1 H1 c1 w1 r1 => ⟨v1, .ty T, _, _, b, rfl, .ty T, tyX_of (r1.deg.sh w1 g2), kit_ty g4, post_bool w1 (p.step c1 w1)⟩⟩
/-- the names of built-in classes, written -/
def tTys (Ts : List String) : TA := fun _ H Q => Q (Ts.map V.ty) H
theorem pt_nil : PA X [] (tTys []) := pa_nil
theorem pt_cons {T : String} {x : Str} {pt : Pos} {es : List Expr} {Ts : List String} (hx : Gl X x) (hmx : X.mg x = none) (hv : bootBuiltins x = some (.type T)) (hr : PA X es (tTys Ts)) (hn : x ≠ "__name__" := by decide) (hd : (x == ("__debug__" : Str)) = false := by decide)
    (hs : starEach (.Name x pt :: es) X.env = (false, eval (.Name x pt) X.env) :: starEach es X.env := by rfl) : PA X (.Name x pt :: es) (tTys (T :: Ts)) := pa_cons (pe_bltn hx hmx hv (v := .ty T) rfl hn hd) hr hs
def kitA (t : String) : List String → Option Bool
  | [] => some false
  | T :: r => match kitB t T with
    | some true => some true
    | some false => kitA t r
    | none => none
theorem kitA_ok {K : PySem.W.Frag} {t : String} : ∀ {Ts : List String}, PySem.W.kitAny K (.type t) (Ts.map Value.type) = kitA t Ts
  | [] => rfl
  | T :: r => by
    show (match PySem.W.kitOne K (.type t) (.type T) with
      | some true => some true
      | some false => PySem.W.kitAny K (.type t) (r.map Value.type)
      | none => none) = _
    rw [kitA_ok]
    rfl
theorem cls_all : ∀ Ts : List String, Paired ClsV (Ts.map V.ty) (Ts.map Value.type)
  | [] => .nil
  | T :: r => .cons (.ty T) (cls_all r)
def dIsiT (Ts : List String) (d : D) : Option Rv := (kitA (tyN d) Ts).map db
theorem xe_isiT {Ts : List String} {e : Expr} {es : List Expr} {f : ME} {p pt pos : Pos} {k : Nat} (hg : Gl X "isinstance") (hm : X.mg "isinstance" = none) (ht : PA X es (tTys Ts)) (he : XE X f e) (hz : Ts.length ≤ sizeLine := by rw [sizeLine_eq]; decide)
    (h1 : starEach [e, .Tuple es k pt] X.env = (false, eval e X.env) :: starEach [.Tuple es k pt] X.env := by rfl) (h2 : starEach [.Tuple es k pt] X.env = (false, eval (.Tuple es k pt) X.env) :: starEach [] X.env := by rfl) (hpl : (backTo pos (starEach [.Tuple es k pt] X.env)).any (·.1) = false := by rfl) :
    XE X (mU (dIsiT Ts) f) (.Call (.Name "isinstance" p) [e, .Tuple es k pt] [] pos) :=
  pe_weak (pe_callB call_isTF hg hm (by decide +kernel) (pa_cons he (pa_cons (pe_tup ht) pa_nil h2) h1) (he := h1) (hpl := hpl)) fun σ H Q ⟨ρ, O, cs, z, cs', e0, en, w, p⟩ => by
    obtain ⟨r, d, g1, g2, g3⟩ := mU_some e0
    obtain ⟨b, g4, rfl⟩ := Option.map_eq_some_iff.mp g3
    refine ⟨ρ, O, cs, r, cs', g1, en, w, fun v1 H1 c1 w1 r1 => ⟨by simpa using hz, fun q hq => ?_⟩⟩
    have w2 := w1.new (o := .tup (Ts.map V.ty)) hq
    have ar := r1.deg.ch (ch_new (O := O) (o := .tup (Ts.map V.ty)) hq)
    exact ⟨v1, q, Ts.map V.ty, _, Ts.map Value.type, b, rfl, upd_same, cls_all Ts, tyX_of (ar.sh w2 g2), by rw [kitA_ok]; exact g4, post_bool w2 (p.step (c1.trans (ch_new hq)) w2)⟩

/-! calls of built-ins with data -/
def dInt : List D → Option Rv
  | [.int i] => some (di i)
  | [.bool b] => some (di (if b then 1 else 0))
  | _ => none
theorem intCS {K : PySem.W.Frag} : CaS K (fun xs H Q => (∃ i, xs = [.int i] ∧ Q (.int i) H) ∨ ∃ k, xs = [.bl k] ∧ Q (.int (if k then 1 else 0)) H) dInt := by
  intro O cs H vs ds z Q w hp g p
  match ds, g, hp with
  | [.int i], g, hp =>
    obtain ⟨x, rfl, sx⟩ := Paired.one hp
    cases g
    exact .inl ⟨i, by rw [sx.int], post_int w p⟩
  | [.bool b], g, hp =>
    obtain ⟨x, rfl, sx⟩ := Paired.one hp
    cases g
    exact .inr ⟨b, by rw [sx.bool], post_int w p⟩
theorem xe_int1 {e : Expr} {fa : MA} {p pos : Pos} (hg : Gl X "int") (hm : X.mg "int" = none) (ha : XA X fa [e]) (he : starEach [e] X.env = (false, eval e X.env) :: starEach [] X.env := by rfl) : XE X (mCall dInt fa) (.Call (.Name "int" p) [e] [] pos) :=
  xe_callTy call_int1 intCS hg hm (by decide +kernel) ha (he := he)
/-- str of an int below 4300 figures, of a text -/
def rStr : List V → Hp → VK → Prop := fun xs H Q => (∃ i, xs = [.int i] ∧ i.natAbs < 10 ^ 4300 ∧ Q (.str (toString i)) H) ∨ ∃ a, xs = [.str a] ∧ Q (.str a) H
theorem call_strD (rm : Rm X) : CallR X (.type "str") rStr := by
  intro pins s σ H xs us Q I r h
  rcases h with ⟨i, rfl, hz, q⟩ | ⟨a, rfl, q⟩
  · obtain ⟨u, rfl, t, rfl⟩ := vals1 r
    have nd : s.heap.NoDigits := rm.nd.keeps fun a o e => (I.bk a o e)
    exact str_of_int_or (I.ok.hd rm.calm) nd (fun _ => ⟨.str _, H, I.tok _, ⟨_, rfl⟩, q⟩) fun hge => absurd hz (Nat.not_lt.mpr hge)
  · obtain ⟨u, rfl, t, rfl⟩ := vals1 r
    exact PySem.P.str_of_str ⟨.str a, H, I, ⟨t, rfl⟩, q⟩
def dStr : List D → Option Rv
  | [.int i] => if i.natAbs < 10 ^ 4300 then some (.dat (.str (Str.ofString (toString i)))) else none
  | [.str x] => some (.dat (.str x))
  | _ => none
theorem strCS {K : PySem.W.Frag} : CaS K rStr dStr := by
  intro O cs H vs ds z Q w hp g p
  match ds, g, hp with
  | [.int i], g, hp =>
    obtain ⟨x, rfl, sx⟩ := Paired.one hp
    obtain ⟨hz, rfl⟩ := ite_some g
    exact .inl ⟨i, by rw [sx.int], hz, post_str w (PySem.int_text_fits10 hz) p⟩
  | [.str y], g, hp =>
    obtain ⟨x, rfl, sx⟩ := Paired.one hp
    cases g
    obtain ⟨rfl, hz⟩ := sx.str
    exact .inr ⟨y, rfl, post_str w hz p⟩
theorem xe_str1 {e : Expr} {fa : MA} {p pos : Pos} (rm : Rm X) (hg : Gl X "str") (hm : X.mg "str" = none) (ha : XA X fa [e]) (he : starEach [e] X.env = (false, eval e X.env) :: starEach [] X.env := by rfl) : XE X (mCall dStr fa) (.Call (.Name "str" p) [e] [] pos) :=
  xe_callTy (call_strD rm) strCS hg hm (by decide +kernel) ha (he := he)
/-- list(..) of a list, a tuple, a text -/
theorem CallR.or {f : Value} {r r' : List V → Hp → VK → Prop} (h : CallR X f r) (h' : CallR X f r') : CallR X f (fun xs H Q => r xs H Q ∨ r' xs H Q) := fun pins s σ H xs us Q I rv q => by
  rcases q with q | q
  · exact h pins s σ H xs us Q I rv q
  · exact h' pins s σ H xs us Q I rv q
def charsV (x : Str) : List V := x.cps.toList.map fun c => .str ⟨#[c]⟩
def charsD (x : Str) : List D := x.cps.toList.map fun c => .str ⟨#[c]⟩
theorem chars_rp {K : PySem.W.Frag} {H : Hp} (x : Str) : RpAll K H (charsV x) (charsD x) := by
  unfold charsV charsD
  induction x.cps.toList with
  | nil => exact .nil
  | cons c r ih => exact .cons (.str _ (one_sign c)) ih
theorem vals_ix : ∀ {xs : List V} {us : List Value}, us.length = xs.length → (∀ (j : Nat) (u : Value), us[j]? = some u → ∃ x, xs[j]? = some x ∧ RelV x u) → Vals xs us
  | [], [], _, _ => .nil
  | [], _ :: _, h, _ => by simp at h
  | _ :: _, [], h, _ => by simp at h
  | x :: xs, u :: us, h, k => by
    obtain ⟨y, e, r⟩ := k 0 u rfl
    have e' : x = y := Option.some.inj e
    subst e'
    exact .cons r (vals_ix (Nat.succ.inj h) fun j v hv => k (j + 1) v hv)
theorem call_list_tx (rm : Rm X) : CallR X (.type "list") (fun xs H Q => ∃ x, xs = [.str x] ∧ x.length ≤ sizeLine ∧ ∀ l, H l = none → Q (.ref l) (upd H l (.lst (charsV x)))) := by
  intro pins s σ H xs us Q I r h
  obtain ⟨x, rfl, hz, q⟩ := h
  obtain ⟨u, rfl, t, rfl⟩ := vals1 r
  have hl : (charsV x).length = x.cps.size := by simp [charsV]
  refine call_list_str (I.ok.hd rm.calm) x t (hn := hz) fun h' tk acc' c' hk hS' hacc => ?_
  refine ⟨.ref s.heap.objs.size, upd H s.heap.objs.size (.lst (charsV x)), I.laid hk (Nat.le_refl _) (show ObjOk X.prog X.w _ _ _ (.lst (charsV x)) from ⟨by rw [hl]; exact hz, acc'.toList, c', vals_ix (by rw [hl]; simpa using hacc.1) fun j u hu => ?_, ?_⟩), rfl, q _ (I.hok.fresh (Nat.le_refl _))⟩
  · obtain ⟨c, t', hc, rfl⟩ := hacc.2 j u (by simpa using hu)
    exact ⟨.str ⟨#[c]⟩, by simp [charsV, hc], t', rfl⟩
  · rw [Array.toArray_toList]; exact hS'
def dList : List D → Option Rv
  | [.list ds] => some (.fr ds)
  | [.tuple ds] => some (.fr ds)
  | [.str x] => some (.fr (charsD x))
  | _ => none
def rListD (K : PySem.W.Frag) : List V → Hp → VK → Prop := fun xs H Q => (∃ p ys, xs = [.ref p] ∧ (SqL K H p ys ∨ SqT K H p ys) ∧ ∀ l, H l = none → Q (.ref l) (upd H l (.lst ys))) ∨ ∃ x, xs = [.str x] ∧ x.length ≤ sizeLine ∧ ∀ l, H l = none → Q (.ref l) (upd H l (.lst (charsV x)))
theorem listCS {K : PySem.W.Frag} : CaS K (rListD K) dList := by
  intro O cs H vs ds z Q w hp g p
  match ds, g, hp with
  | [.list ds], g, hp =>
    obtain ⟨x, rfl, sx⟩ := Paired.one hp
    cases g
    obtain ⟨a, vs, rfl, q, r⟩ := sx.list
    exact .inl ⟨a, vs, rfl, .inl q.sq, post_list w r p⟩
  | [.tuple ds], g, hp =>
    obtain ⟨x, rfl, sx⟩ := Paired.one hp
    cases g
    obtain ⟨a, vs, rfl, q, r⟩ := sx.tuple
    exact .inl ⟨a, vs, rfl, .inr q, post_list w r p⟩
  | [.str y], g, hp =>
    obtain ⟨x, rfl, sx⟩ := Paired.one hp
    cases g
    obtain ⟨rfl, hz⟩ := sx.str
    exact .inr ⟨y, rfl, hz, post_list w (chars_rp y) p⟩
theorem xe_list1 {e : Expr} {fa : MA} {p pos : Pos} (rm : Rm X) (hg : Gl X "list") (hm : X.mg "list" = none) (ha : XA X fa [e]) (he : starEach [e] X.env = (false, eval e X.env) :: starEach [] X.env := by rfl) : XE X (mCall dList fa) (.Call (.Name "list" p) [e] [] pos) :=
  xe_callTy (CallR.or call_list_of (call_list_tx rm)) listCS hg hm (by decide +kernel) ha (he := he)
/-- tuple(..) of a list, a tuple -/
def dTuple : List D → Option Rv
  | [.list ds] => some (.dat (.tuple ds))
  | [.tuple ds] => some (.dat (.tuple ds))
  | _ => none
theorem tupleCS {K : PySem.W.Frag} : CaS K (fun xs H Q => ∃ p ys, xs = [.ref p] ∧ ((SqL K H p ys ∧ ∀ l, H l = none → Q (.ref l) (upd H l (.tup ys))) ∨ (SqT K H p ys ∧ Q (.ref p) H))) dTuple := by
  intro O cs H vs ds z Q w hp g p
  match ds, g, hp with
  | [.list ds], g, hp =>
    obtain ⟨x, rfl, sx⟩ := Paired.one hp
    cases g
    obtain ⟨a, vs, rfl, q, r⟩ := sx.list
    exact ⟨a, vs, rfl, .inl ⟨q.sq, post_tup w r p⟩⟩
  | [.tuple ds], g, hp =>
    obtain ⟨x, rfl, sx⟩ := Paired.one hp
    cases g
    have sx' := sx
    obtain ⟨a, vs, rfl, q, r⟩ := sx.tuple
    rcases sx' with sx' | ⟨_, _, _, _, h, _⟩
    · exact ⟨a, vs, rfl, .inr ⟨q, post_val w sx' p⟩⟩
    · cases h
theorem xe_tuple1 {e : Expr} {fa : MA} {p pos : Pos} (hg : Gl X "tuple") (hm : X.mg "tuple" = none) (ha : XA X fa [e]) (he : starEach [e] X.env = (false, eval e X.env) :: starEach [] X.env := by rfl) : XE X (mCall dTuple fa) (.Call (.Name "tuple" p) [e] [] pos) :=
  xe_callTy call_tuple_of tupleCS hg hm (by decide +kernel) ha (he := he)
/-- abs, max, min of two ints, sum of ints -/
def dAbs : List D → Option Rv
  | [.int i] => some (di (if i < 0 then -i else i))
  | _ => none
theorem absCS {K : PySem.W.Frag} : CaS K (fun xs H Q => ∃ i, xs = [.int i] ∧ Q (.int (if i < 0 then -i else i)) H) dAbs := by
  intro O cs H vs ds z Q w hp g p
  match ds, g, hp with
  | [.int i], g, hp =>
    obtain ⟨x, rfl, sx⟩ := Paired.one hp
    cases g
    exact ⟨i, by rw [sx.int], post_int w p⟩
theorem xe_abs {e : Expr} {fa : MA} {p pos : Pos} (hg : Gl X "abs") (hm : X.mg "abs" = none) (ha : XA X fa [e]) (he : starEach [e] X.env = (false, eval e X.env) :: starEach [] X.env := by rfl) : XE X (mCall dAbs fa) (.Call (.Name "abs" p) [e] [] pos) :=
  xe_callB call_abs absCS hg hm (by decide +kernel) ha (he := he)
def dMax2 : List D → Option Rv
  | [.int i, .int j] => some (di (if j > i then j else i))
  | _ => none
def dMin2 : List D → Option Rv
  | [.int i, .int j] => some (di (if j < i then j else i))
  | _ => none
theorem max2CS {K : PySem.W.Frag} : CaS K (fun xs H Q => ∃ i j, xs = [.int i, .int j] ∧ Q (.int (if j > i then j else i)) H) dMax2 := by
  intro O cs H vs ds z Q w hp g p
  match ds, g, hp with
  | [.int i, .int j], g, hp =>
    obtain ⟨x, y, rfl, sx, sy⟩ := Paired.two hp
    cases g
    exact ⟨i, j, by rw [sx.int, sy.int], post_int w p⟩
theorem min2CS {K : PySem.W.Frag} : CaS K (fun xs H Q => ∃ i j, xs = [.int i, .int j] ∧ Q (.int (if j < i then j else i)) H) dMin2 := by
  intro O cs H vs ds z Q w hp g p
  match ds, g, hp with
  | [.int i, .int j], g, hp =>
    obtain ⟨x, y, rfl, sx, sy⟩ := Paired.two hp
    cases g
    exact ⟨i, j, by rw [sx.int, sy.int], post_int w p⟩
theorem xe_max2 {e e2 : Expr} {fa : MA} {p pos : Pos} (rm : Rm X) (hg : Gl X "max") (hm : X.mg "max" = none) (ha : XA X fa [e, e2]) (he : starEach [e, e2] X.env = (false, eval e X.env) :: starEach [e2] X.env := by rfl) (hpl : (backTo pos (starEach [e2] X.env)).any (·.1) = false := by rfl) : XE X (mCall dMax2 fa) (.Call (.Name "max" p) [e, e2] [] pos) :=
  xe_callB (call_max2 rm.calm) max2CS hg hm (by decide +kernel) ha (he := he) (hpl := hpl)
theorem xe_min2 {e e2 : Expr} {fa : MA} {p pos : Pos} (rm : Rm X) (hg : Gl X "min") (hm : X.mg "min" = none) (ha : XA X fa [e, e2]) (he : starEach [e, e2] X.env = (false, eval e X.env) :: starEach [e2] X.env := by rfl) (hpl : (backTo pos (starEach [e2] X.env)).any (·.1) = false := by rfl) : XE X (mCall dMin2 fa) (.Call (.Name "min" p) [e, e2] [] pos) :=
  xe_callB (call_min2 rm.calm) min2CS hg hm (by decide +kernel) ha (he := he) (hpl := hpl)
def intsD : List D → Option (List Int)
  | [] => some []
  | .int i :: r => (intsD r).map fun is => i :: is
  | _ => none
theorem intsD_v {K : PySem.W.Frag} {H : Hp} : ∀ {ds : List D} {vs : List V} {is : List Int}, RpAll K H vs ds → intsD ds = some is → vs = is.map V.int
  | [], vs, is, r, e => by cases r; cases e; rfl
  | .int i :: ds, vs, is, r, e => by
    obtain ⟨js, h1, h2⟩ := Option.map_eq_some_iff.mp e
    subst h2
    cases r with
    | cons a t =>
      cases a
      rw [intsD_v t h1]; rfl
  | .none :: _, _, _, _, e => by cases e
  | .bool _ :: _, _, _, _, e => by cases e
  | .str _ :: _, _, _, _, e => by cases e
  | .list _ :: _, _, _, _, e => by cases e
  | .tuple _ :: _, _, _, _, e => by cases e
  | .dict _ :: _, _, _, _, e => by cases e
def dSum : List D → Option Rv
  | [.list ds] => (intsD ds).map fun is => di is.sum
  | _ => none
theorem sumCS {K : PySem.W.Frag} : CaS K (rSum K) dSum := by
  intro O cs H vs ds z Q w hp g p
  match ds, g, hp with
  | [.list ds], g, hp =>
    obtain ⟨x, rfl, sx⟩ := Paired.one hp
    obtain ⟨is, h1, rfl⟩ := Option.map_eq_some_iff.mp g
    obtain ⟨a, vs, rfl, q, r⟩ := sx.list
    have e := intsD_v r h1
    subst e
    exact ⟨a, is, rfl, q.sq, post_int w p⟩
theorem xe_sum {e : Expr} {fa : MA} {p pos : Pos} (rm : Rm X) (hg : Gl X "sum") (hm : X.mg "sum" = none) (ha : XA X fa [e]) (he : starEach [e] X.env = (false, eval e X.env) :: starEach [] X.env := by rfl) : XE X (mCall dSum fa) (.Call (.Name "sum" p) [e] [] pos) :=
  xe_callB (cr_sum rm.calm) sumCS hg hm (by decide +kernel) ha (he := he)
end
end DL
namespace DL
open PySem PySem.Spec PyProof.Rows L2
section
variable {X : Cx}
/-! repr -/
def scal : D → Bool
  | .none | .bool _ | .int _ | .str _ => true
  | _ => false
def flatD : D → Bool
  | .dict kvs => !isFn kvs && kvs.all fun p => scal p.1 && scal p.2
  | d => !d.hasDict
def rOk (d : D) : Bool := d.showable && flatD d && decide (d.depth ≤ 100) && decide (d.shown.length ≤ sizeLine)
theorem reads_scal {h : Heap} : ∀ {us : List Value} {ds : List D} {as : List Addr}, ReadsAll h us ds as → (∀ d ∈ ds, scal d = true) → as = []
  | _, _, _, .nil, _ => rfl
  | _, _, _, .cons (d := d) a r, q => by
    have h1 := q _ (List.mem_cons_self ..)
    have h2 := reads_scal r fun d hd => q d (List.mem_cons_of_mem _ hd)
    subst h2
    cases a <;> first | rfl | cases h1
theorem scal_noF {d : D} (h : scal d = true) : noF d = true := by
  cases d <;> first | (unfold noF; rfl) | cases h
theorem flat_noF {d : D} (h : flatD d = true) : noF d = true := by
  cases d with
  | dict kvs =>
    obtain ⟨h1, h2⟩ := Bool.and_eq_true_iff.mp (show (!isFn kvs && kvs.all fun p => scal p.1 && scal p.2) = true from h)
    unfold noF
    rw [h1, Bool.true_and]
    clear h h1
    induction kvs with
    | nil => unfold noFk; rfl
    | cons p r ih =>
      rw [List.all_cons, Bool.and_eq_true, Bool.and_eq_true] at h2
      obtain ⟨k, v⟩ := p
      unfold noFk
      rw [scal_noF h2.1.2, ih h2.2]
      rfl
  | list ds => exact noF_nodict (by simpa using (show (!PyData.hasDict (.list ds)) = true from h))
  | tuple ds => exact noF_nodict (by simpa using (show (!PyData.hasDict (.tuple ds)) = true from h))
  | none => unfold noF; rfl
  | bool _ => unfold noF; rfl
  | int _ => unfold noF; rfl
  | str _ => unfold noF; rfl
def rReprD (K : PySem.W.Frag) : List V → Hp → VK → Prop := fun xs H Q => ∃ x d, xs = [x] ∧ Rp K H x d ∧ rOk d = true ∧ Q (.str d.shown) H
theorem call_reprD (rm : Rm X) : CallR X (.builtin "repr") (rReprD X.K) := by
  intro pins s σ H xs us Q I r h
  obtain ⟨x, d, rfl, rx, ok, q⟩ := h
  unfold rOk at ok
  simp only [Bool.and_eq_true, decide_eq_true_eq] at ok
  obtain ⟨⟨⟨o1, o2⟩, o3⟩, o4⟩ := ok
  have go : ∀ (a : Addr), x = .ref a → wpAny (model X.prog X.w) X.A (call (.builtin "repr") us) (EP X pins σ Q) X.xe s := by
    intro a ea
    subst ea
    obtain ⟨u, rfl, ru⟩ := vals1 r
    obtain ⟨as, rd⟩ := Rp.reads I rx (flat_noF o2) _ ru
    cases ru
    refine repr_of_reads' (h₀ := s.heap) rd o1 (fun hd => ?_) rm.gd (by have := rm.un; omega) (fun _ _ e => e) (fun h' u tk k => ⟨.str _, H, I.kept k, ⟨_, rfl⟩, q⟩) o4
    cases rx with
    | lst _ _ => rw [show flatD (.list _) = !(PyData.hasDict (.list _)) from rfl, hd] at o2; cases o2
    | tup _ _ => rw [show flatD (.tuple _) = !(PyData.hasDict (.tuple _)) from rfl, hd] at o2; cases o2
    | fn _ => cases o2
    | dct qd e b =>
      obtain ⟨_, hS, _⟩ := dk_rd I.hok (.inr ⟨_, qd⟩)
      have sc := List.all_eq_true.mp (Bool.and_eq_true_iff.mp (show (!_ && List.all _ _) = true from o2)).2
      cases rd with
      | dict g1 g2 g3 g4 g5 =>
        have e1 := reads_scal g4 (by
          intro d hd
          obtain ⟨p, hp, rfl⟩ := List.mem_map.mp hd
          have := sc p hp
          simp only [Bool.and_eq_true] at this
          exact this.1)
        have e2 := reads_scal g5 (by
          intro d hd
          obtain ⟨p, hp, rfl⟩ := List.mem_map.mp hd
          have := sc p hp
          simp only [Bool.and_eq_true] at this
          exact this.2)
        subst e1 e2
        simpa using Ne.symm (beq_eq_false_iff_ne.mp hS)
  cases rx with
  | non =>
    obtain ⟨u, rfl, ru⟩ := vals1 r
    cases ru
    exact PySem.P.repr_of_none ⟨.str _, H, I.tok _, ⟨_, rfl⟩, q⟩
  | bl b =>
    obtain ⟨u, rfl, ru⟩ := vals1 r
    cases ru
    exact PySem.P.repr_of_bool ⟨.str _, H, I.tok _, ⟨_, rfl⟩, q⟩
  | int i =>
    obtain ⟨u, rfl, t, rfl⟩ := vals1 r
    exact PySem.P.repr_of_int (by simpa [PyData.showable] using o1) ⟨.str _, H, I.tok _, ⟨_, rfl⟩, q⟩
  | str y hz =>
    obtain ⟨u, rfl, t, rfl⟩ := vals1 r
    exact PySem.P.repr_of_str ⟨.str _, H, I.tok _, ⟨_, rfl⟩, q⟩ o4
  | lst _ _ => exact go _ rfl
  | tup _ _ => exact go _ rfl
  | dct _ _ _ => exact go _ rfl
  | fn _ => exact go _ rfl
def dRepr : List D → Option Rv
  | [d] => if rOk d = true then some (.dat (.str d.shown)) else none
  | _ => none
theorem reprCS {K : PySem.W.Frag} : CaS K (rReprD K) dRepr := by
  intro O cs H vs ds z Q w hp g p
  match ds, g, hp with
  | [d], g, hp =>
    obtain ⟨x, rfl, sx⟩ := Paired.one hp
    obtain ⟨hz, rfl⟩ := ite_some g
    refine ⟨x, d, rfl, sx.rp, hz, post_str w ?_ p⟩
    unfold rOk at hz
    simp only [Bool.and_eq_true, decide_eq_true_eq] at hz
    exact hz.2
theorem xe_repr {e : Expr} {fa : MA} {p pos : Pos} (rm : Rm X) (hg : Gl X "repr") (hm : X.mg "repr" = none) (ha : XA X fa [e]) (he : starEach [e] X.env = (false, eval e X.env) :: starEach [] X.env := by rfl) : XE X (mCall dRepr fa) (.Call (.Name "repr" p) [e] [] pos) :=
  xe_callB (call_reprD rm) reprCS hg hm (by decide +kernel) ha (he := he)

/-! sorted -/
mutual
theorem noF_alike : ∀ {d : D}, PySem.W.alike d d = true → noF d = true
  | .none, _ => by unfold noF; rfl
  | .bool _, _ => by unfold noF; rfl
  | .int _, _ => by unfold noF; rfl
  | .str _, _ => by unfold noF; rfl
  | .list ds, h => by unfold noF; exact noFs_alike (by simpa only [PySem.W.alike] using h)
  | .tuple ds, h => by unfold noF; exact noFs_alike (by simpa only [PySem.W.alike] using h)
  | .dict _, h => by simp [PySem.W.alike] at h
theorem noFs_alike : ∀ {ds : List D}, PySem.W.alikeAll ds ds = true → noFs ds = true
  | [], _ => by unfold noFs; rfl
  | d :: ds, h => by
    simp only [PySem.W.alikeAll, Bool.and_eq_true] at h
    unfold noFs
    rw [noF_alike h.1, noFs_alike h.2]
    rfl
end
def nTup : D → Bool
  | .tuple (_ :: _) => true
  | _ => false
def nOth : D → Bool
  | .tuple _ => false
  | .none => false
  | _ => true
def sOk (ds : List D) : Bool := ds.all (fun d => ds.all fun e => PySem.W.alike d e) && (ds.all nTup || ds.all nOth) && ds.all (fun d => decide (d.depth ≤ 100))
def srt (ds : List D) : List D := ds.mergeSort (PySem.W.dataLe false id)
def rSortedD (K : PySem.W.Frag) : List V → Hp → VK → Prop := fun xs H Q => ∃ (R : V → D → Prop) (a : Addr) (vs : List V) (ds : List D), xs = [.ref a] ∧ SqL K H a vs ∧ Paired (fun v d => Rp K H v d ∧ R v d) vs ds ∧ sOk ds = true ∧
  ∀ p ws, H p = none → Paired R ws (srt ds) → Q (.ref p) (upd H p (.lst ws))
theorem each_of {R : V → D → Prop} : ∀ {ws : List Value} {ds : List D}, PySem.W.EachIs (fun u d => ∃ v, RelV v u ∧ R v d) ws ds → ∃ vs, Vals vs ws ∧ Paired R vs ds
  | _, _, .nil => ⟨[], .nil, .nil⟩
  | _, _, .cons a r => by
    obtain ⟨v, h1, h2⟩ := a
    obtain ⟨vs, q1, q2⟩ := each_of r
    exact ⟨v :: vs, .cons h1 q1, .cons h2 q2⟩
theorem call_sortedD' (rm : Rm X) : CallR X (.builtin "sorted") (rSortedD X.K) := by
  intro pins s σ H xs us Q I r h
  obtain ⟨R, a, vs, ds, rfl, hs, hp, ok, q⟩ := h
  unfold sOk at ok
  simp only [Bool.and_eq_true, Bool.or_eq_true] at ok
  obtain ⟨⟨o1, o2⟩, o3⟩ := ok
  obtain ⟨its, rv, ⟨o, n, ho, hc, _, hd⟩, hz⟩ := I.list hs
  rw [Vals.ref1 r]
  have hl : vs.length = ds.length := by
    clear q rv hz o1 o2 o3 hs
    induction hp with
    | nil => rfl
    | cons _ _ ih => simp [ih]
  have onf : ∀ d ∈ ds, noF d = true := fun d hd => noF_alike (List.all_eq_true.mp (List.all_eq_true.mp o1 d hd) d hd)
  have e1 : PySem.W.EachIs (fun u d => (∃ v, RelV v u ∧ R v d) ∧ ∃ as, Reads s.heap u d as) its ds := by
    clear q hz o1 o2 o3 hs hl hd
    induction hp generalizing its with
    | nil => cases rv; exact .nil
    | cons b _ ih =>
      cases rv with
      | cons r1 r2 =>
        exact .cons ⟨⟨_, r1, b.2⟩, Rp.reads I b.1 (onf _ (List.mem_cons_self ..)) _ r1⟩ (ih _ r2 fun d hd => onf d (List.mem_cons_of_mem _ hd))
  have h0 := PySem.W.sorted_data (prog := X.prog) (w := X.w) (A := X.A) (E := X.xe) (R := fun u d => ∃ v, RelV v u ∧ R v d) (enc := id) (bs := ds) (vs := its) (l := a) (s := s) (Q := EP X pins σ Q) ⟨o, ho, hc, n, hd⟩
    (e1.mono fun _ _ z => z.1) (e1.mono fun _ _ z => z.2) (by
      rw [List.map_id]
      intro d hd d' hd'
      exact List.all_eq_true.mp (List.all_eq_true.mp o1 d hd) d' hd') (by
      rw [List.map_id]
      rcases o2 with o2 | o2
      · refine .inl fun d hd => ?_
        have := List.all_eq_true.mp o2 d hd
        cases d with
        | tuple l => cases l with
          | nil => cases this
          | cons x r => exact ⟨x, r, rfl⟩
        | _ => cases this
      · refine .inr fun d hd => ?_
        have := List.all_eq_true.mp o2 d hd
        cases d with
        | tuple l => cases this
        | none => cases this
        | _ => exact ⟨fun z => PyData.noConfusion z, fun _ z => PyData.noConfusion z⟩) (by rw [← hl]; exact hz) (fun b hb => by
      have := of_decide_eq_true (List.all_eq_true.mp o3 b hb)
      have := rm.un
      show _ + 2 + b.depth < _
      omega)
  refine h0 fun out ho1 ho2 => ?_
  obtain ⟨ws, v1, v2⟩ := each_of ho2
  obtain ⟨ep, he'⟩ := PyProof.Rows.sortedAll_at s.heap its out.toArray
  exact ⟨.ref _, upd H (s.heap.objs.size + 1) (.lst ws), I.laid (t' := s.toks) (fun _ _ => PyProof.Rows.sortedAll_old) (Nat.le_succ _) ⟨by rw [v1.length, ho1, ← hl]; exact hz, out, ep, v1, he'⟩, rfl, q _ _ (I.hok.fresh (Nat.le_succ _)) v2⟩
def dSorted : List D → Option Rv
  | [.list ds] => if sOk ds = true then some (.fr (srt ds)) else none
  | _ => none
theorem paired_rp {K : PySem.W.Frag} {H H' : Hp} : ∀ {vs : List V} {ds : List D}, RpAll K H vs ds → (∀ {v d}, Rp K H v d → Rp K H' v d) → Paired (fun v d => Rp K H' v d ∧ Rp K H v d) vs ds
  | _, _, .nil, _ => .nil
  | _, _, .cons a r, h => .cons ⟨h a, a⟩ (paired_rp r h)
theorem rp_paired {K : PySem.W.Frag} {H : Hp} : ∀ {vs : List V} {ds : List D}, Paired (Rp K H) vs ds → RpAll K H vs ds
  | _, _, .nil => .nil
  | _, _, .cons a r => .cons a (rp_paired r)
theorem sortedCS {K : PySem.W.Frag} : CaS K (rSortedD K) dSorted := by
  intro O cs H vs ds z Q w hp g p
  match ds, g, hp with
  | [.list ds], g, hp =>
    obtain ⟨x, rfl, sx⟩ := Paired.one hp
    obtain ⟨hz, rfl⟩ := ite_some g
    obtain ⟨a, vs, rfl, q, r⟩ := sx.list
    exact ⟨Rp K (hd O H), a, vs, ds, rfl, q.sq, paired_rp r (fun h => h.mono hd_le), hz, fun b ws hb hw => post_list w (rp_paired hw) p b hb⟩
theorem xe_sorted {e : Expr} {fa : MA} {p pos : Pos} (rm : Rm X) (hg : Gl X "sorted") (hm : X.mg "sorted" = none) (ha : XA X fa [e]) (he : starEach [e] X.env = (false, eval e X.env) :: starEach [] X.env := by rfl) : XE X (mCall dSorted fa) (.Call (.Name "sorted" p) [e] [] pos) :=
  xe_callB (call_sortedD' rm) sortedCS hg hm (by decide +kernel) ha (he := he)

/-! str.join, bit_length -/
def strsD : List D → Option (List Str)
  | [] => some []
  | .str i :: r => (strsD r).map fun is => i :: is
  | _ => none
theorem strsD_v {K : PySem.W.Frag} {H : Hp} : ∀ {ds : List D} {vs : List V} {is : List Str}, RpAll K H vs ds → strsD ds = some is → vs = is.map V.str
  | [], vs, is, r, e => by cases r; cases e; rfl
  | .str i :: ds, vs, is, r, e => by
    obtain ⟨js, h1, h2⟩ := Option.map_eq_some_iff.mp e
    subst h2
    cases r with
    | cons a t =>
      cases a
      rw [strsD_v t h1]; rfl
  | .none :: _, _, _, _, e => by cases e
  | .bool _ :: _, _, _, _, e => by cases e
  | .int _ :: _, _, _, _, e => by cases e
  | .list _ :: _, _, _, _, e => by cases e
  | .tuple _ :: _, _, _, _, e => by cases e
  | .dict _ :: _, _, _, _, e => by cases e
def joinOk (a : Str) (ys : List Str) : Bool := decide ((ys.map (·.length)).sum + ys.length * a.length ≤ 16777216) && decide ((Txt.join a ys).length ≤ sizeLine)
def dJoin : D → D → Option Rv
  | .str a, .list ds => (strsD ds).bind fun ys => if joinOk a ys = true then some (.dat (.str (Txt.join a ys))) else none
  | .str a, .tuple ds => (strsD ds).bind fun ys => if joinOk a ys = true then some (.dat (.str (Txt.join a ys))) else none
  | _, _ => none
/-- a text's method with one argument -/
def M1S (K : PySem.W.Frag) (r : V → List V → Hp → VK → Prop) (g : D → D → Option Rv) : Prop := ∀ (O : List (Option Addr)) (cs : Cs) (H : Hp) (x y : V) (d e : D) (z : Rv) (Q : VK), Wd K O cs H → Sh K O H x d → Sh K O H y e → g d e = some z → PostX K O H z cs Q → (∃ a, x = .str a) ∧ r x [y] H Q
theorem joinS {K : PySem.W.Frag} : M1S K (fun x xs H Q => ∃ a p, ∃ ys : List Str, x = .str a ∧ xs = [.ref p] ∧ (SqL K H p (ys.map V.str) ∨ SqT K H p (ys.map V.str)) ∧
      (ys.map (·.length)).sum + ys.length * a.length ≤ 16777216 ∧ Q (.str (Txt.join a ys)) H) dJoin := by
  intro O cs H x y d e z Q w sx sy g p
  have fin : ∀ {a : Str} {ys : List Str}, (if joinOk a ys = true then some (Rv.dat (.str (Txt.join a ys))) else none) = some z → (ys.map (·.length)).sum + ys.length * a.length ≤ 16777216 ∧ Q (.str (Txt.join a ys)) H := fun {a ys} g => by
    obtain ⟨hz, rfl⟩ := ite_some g
    unfold joinOk at hz
    simp only [Bool.and_eq_true, decide_eq_true_eq] at hz
    exact ⟨hz.1, post_str w hz.2 p⟩
  cases d with
  | str a =>
    obtain ⟨rfl, _⟩ := sx.str
    cases e with
    | list ds =>
      obtain ⟨ys, h1, g⟩ := Option.bind_eq_some_iff.mp g
      obtain ⟨b, vs, rfl, q, r⟩ := sy.list
      have e := strsD_v r h1
      subst e
      exact ⟨⟨a, rfl⟩, a, b, ys, rfl, rfl, .inl q.sq, fin g⟩
    | tuple ds =>
      obtain ⟨ys, h1, g⟩ := Option.bind_eq_some_iff.mp g
      obtain ⟨b, vs, rfl, q, r⟩ := sy.tuple
      have e := strsD_v r h1
      subst e
      exact ⟨⟨a, rfl⟩, a, b, ys, rfl, rfl, .inr q, fin g⟩
    | _ => cases g
  | _ => cases g
/-- evaluated before: the receiver must be a text at once -/
def mM1 (g : D → D → Option Rv) (fa fb : ME) : ME := fun ρ cs => (fa ρ cs).bind fun p => match p.1 with
  | .dat (.str a) => (fb ρ p.2).bind fun q => (rd (deg q.1) q.2).bind fun e => (g (.str a) e).map fun z => (z, q.2)
  | _ => none
theorem tM1_of {K : PySem.W.Frag} {r : V → List V → Hp → VK → Prop} {g : D → D → Option Rv} {fa fb : ME} (hs : M1S K r g) {σ : L2.St} {H : Hp} {Q : VK} (h : tX K (mM1 g fa fb) σ H Q) : tM1 r (tX K fa) (tX K fb) σ H Q := by
  obtain ⟨ρ, O, cs, z, cs', e, en, w, p⟩ := h
  obtain ⟨⟨x, cs1⟩, h1, e⟩ := Option.bind_eq_some_iff.mp e
  dsimp only at e
  split at e
  · rename_i a
    obtain ⟨⟨y, cs2⟩, h2, e⟩ := Option.bind_eq_some_iff.mp e
    obtain ⟨ye, h3, e⟩ := Option.bind_eq_some_iff.mp e
    obtain ⟨z', h4, e⟩ := Option.map_eq_some_iff.mp e
    cases e
    refine ⟨ρ, O, cs, _, cs1, h1, en, w, fun v1 H1 c1 w1 r1 => ?_⟩
    have e1 := (Sh.str (.inl r1 : Sh K O H1 v1 (.str a))).1
    refine ⟨⟨a, e1⟩, ρ, O, cs1, y, cs2, h2, en.ch c1, w1, fun v2 H2 c2 w2 r2 => ?_⟩
    exact (hs O cs2 H2 v1 v2 (.str a) ye _ Q w2 (.inl (Rp.mono c2.data r1)) (r2.deg.sh w2 h3) h4 (p.step (c1.trans c2) w2)).2
  · cases e
theorem xe_join {o e : Expr} {fa fb : ME} {apos pos : Pos} (ho : XE X fa o) (he : XE X fb e) (hs : starEach [e] X.env = [(false, eval e X.env)] := by rfl) (hbase : attributeBase o "join" X.env (eval o X.env) = eval o X.env := by rfl) (hline : (apos.endLine == pos.line) = true := by rfl) :
    XE X (mM1 dJoin fa fb) (.Call (.Attribute o "join" apos) [e] [] pos) := pe_weak (pe_join ho he hs hbase hline) fun σ H Q h => tM1_of joinS h
def dBits : D → Option Rv
  | .int i => some (di (Builtin.Int.intBits i : Nat))
  | _ => none
theorem xe_bits {o : Expr} {fa : ME} {apos pos : Pos} (ho : XE X fa o) (hbase : attributeBase o "bit_length" X.env (eval o X.env) = eval o X.env := by rfl) (hline : (apos.endLine == pos.line) = true := by rfl) : XE X (mU dBits fa) (.Call (.Attribute o "bit_length" apos) [] [] pos) :=
  pe_weak (pe_bits ho hbase hline) fun σ H Q ⟨ρ, O, cs, z, cs', e, en, w, p⟩ => by
    obtain ⟨x, d, h1, h2, h3⟩ := mU_some e
    refine ⟨ρ, O, cs, x, cs', h1, en, w, fun v1 H1 c1 w1 r1 => ?_⟩
    have sx := r1.deg.sh w1 h2
    cases d with
    | int i =>
      cases h3
      exact ⟨i, sx.int, post_int w1 (p.step c1 w1)⟩
    | _ => cases h3
end
end DL
namespace DL
open PySem PySem.Spec PyProof.Rows L2
section
variable {X : Cx}
/-! dicts: locked as soon as they are made -/
def lockQ (Q : VK) : VK := fun v H' => ∃ p kvs, v = .ref p ∧ H' p = some (.dK kvs) ∧ ∀ od, Q v (upd H' p (.frz od (.dK kvs)))
theorem ep_lock {pins : List (Addr × Obj)} {σ : L2.St} {Q : VK} {u : Value} {s : Shared} (h : EP X pins σ (lockQ Q) u s) : EP X pins σ Q u s := by
  obtain ⟨v, H', I, r, p, kvs, rfl, e, q⟩ := h
  obtain ⟨od, I2⟩ := I.lock e trivial
  exact ⟨_, _, I2, r, q od⟩
theorem pe_lockQ {e : Expr} {t : TE} (h : PE X e t) : PE X e (fun σ H Q => t σ H (lockQ Q)) := ⟨fun pins s σ H Q I q => thn (h.run pins s σ H _ I q) fun u s1 z => ep_lock z⟩
theorem callR_lockQ {f : Value} {r : List V → Hp → VK → Prop} (h : CallR X f r) : CallR X f (fun xs H Q => r xs H (lockQ Q)) := fun pins s σ H xs us Q I rv q => thn (h pins s σ H xs us _ I rv q) fun u s1 z => ep_lock z
theorem post_dict {K : PySem.W.Frag} {O : List (Option Addr)} {cs : Cs} {H : Hp} {Q : VK} {kvs : List (Key × V)} {ds : List (D × D)} (w : Wd K O cs H) (e : kvs.map (fun p => kD p.1) = ds.map (·.1)) (r : RpAll K (hd O H) (kvs.map (·.2)) (ds.map (·.2))) (h : PostX K O H (.dat (.dict ds)) cs Q) :
    ∀ p, H p = none → lockQ Q (.ref p) (upd H p (.dK kvs)) := fun p hp => by
  refine ⟨p, kvs, rfl, upd_same, fun od => ?_⟩
  have e2 : upd (upd H p (.dK kvs)) p (.frz od (.dK kvs)) = upd H p (.frz od (.dK kvs)) := by
    funext a
    by_cases c : a = p
    · subst c; rw [upd_same, upd_same]
    · rw [upd_ne c, upd_ne c, upd_ne c]
  rw [e2]
  exact h _ _ (ch_new hp) (w.new hp) (.dct (hd_of (w.fresh hp) upd_same) e (r.mono (ch_new hp).data))
/-! displays of constants -/
theorem xe_dict0 {pos : Pos} : XE X (xC (.dict [])) (.Dict [] [] pos) := pe_weak (pe_lockQ pe_dnewK) fun σ H Q ⟨ρ, O, cs, r', cs', e, en, w, p⟩ => by
  cases e
  exact post_dict (kvs := []) w rfl .nil p
theorem tPairs_c {σ : L2.St} {H : Hp} {Q : List (V × V) → Hp → Prop} : ∀ {kvs : List (Key × V)} {Q : List (V × V) → Hp → Prop}, Q (kvs.map fun p => (kV p.1, p.2)) H → tPairs (kvs.map fun p => (tC (kV p.1), tC p.2)) σ H Q
  | [], _, q => q
  | kv :: r, Q, q => by
    show tC (kV kv.1) σ H fun x H1 => tC kv.2 σ H1 fun y H2 => tPairs _ σ H2 fun ps H3 => Q ((x, y) :: ps) H3
    exact tPairs_c (kvs := r) (Q := fun ps H3 => Q ((kV kv.1, kv.2) :: ps) H3) q
theorem merge_nodup : ∀ {kvs acc : List (Key × V)}, ((acc ++ kvs).map (·.1)).Nodup → mergeK acc kvs = acc ++ kvs
  | [], acc, _ => (List.append_nil acc).symm
  | kv :: r, acc, h => by
    have hk : (acc.any fun p => decide (p.1 = kv.1)) = false := by
      rw [List.any_eq_false]
      intro p hp hq
      have := of_decide_eq_true hq
      rw [List.map_append, List.map_cons, List.nodup_append] at h
      exact h.2.2 p.1 (List.mem_map.mpr ⟨p, hp, rfl⟩) kv.1 (List.mem_cons_self ..) this
    show mergeK (putK acc kv.1 kv.2) r = _
    have e : putK acc kv.1 kv.2 = acc ++ [kv] := by
      unfold putK
      rw [if_neg (by rw [hk]; decide)]
    rw [e, merge_nodup (by rw [List.append_assoc]; exact h), List.append_assoc]
    rfl
/-- the pairs are constants -/
theorem xe_dictC {pos : Pos} {keys : List (Option Expr)} {values : List Expr} {kvs : List (Key × V)} {ds : List (D × D)} (h : PPs X pos keys values (kvs.map fun p => (tC (kV p.1), tC p.2))) (hall : keys.all (·.isSome) = true) (hl : keys.length = values.length) (h0 : keys ≠ [])
    (h15 : keys.length ≤ 15) (hk15 : kvs.length ≤ 15) (hn : (kvs.map (·.1)).Nodup) (e : kvs.map (fun p => kD p.1) = ds.map (·.1)) (r : ∀ K H, RpAll K H (kvs.map (·.2)) (ds.map (·.2))) : XE X (xC (.dict ds)) (.Dict keys values pos) :=
  pe_weak (pe_lockQ (pe_disp h hall hl h0 h15)) fun σ H Q ⟨ρ, O, cs, r', cs', e0, en, w, p⟩ => by
    cases e0
    intro q hq
    refine tPairs_c (Q := fun ps H2 => H2 q = some (.dK []) ∧ ∃ kvs : List (Key × V), ps = kvs.map (fun kv => (kV kv.1, kv.2)) ∧ kvs.length ≤ 15 ∧ lockQ Q (.ref q) (upd H2 q (.dK (mergeK [] kvs)))) ⟨upd_same, kvs, rfl, hk15, ?_⟩
    have e2 : upd (upd H q (.dK [])) q (.dK (mergeK [] kvs)) = upd H q (.dK kvs) := by
      rw [merge_nodup (by simpa using hn), List.nil_append]
      funext a
      by_cases c : a = q
      · subst c; rw [upd_same, upd_same]
      · rw [upd_ne c, upd_ne c, upd_ne c]
    rw [e2]
    exact post_dict w e (r _ _) p q hq
/-! d[k] -/
def keyOf : D → Option Key
  | .int i => some (.inl i)
  | .str x => some (.inr x)
  | _ => none
theorem keyOf_v {K : PySem.W.Frag} {O : List (Option Addr)} {H : Hp} {v : V} {d : D} {k : Key} (h : Sh K O H v d) (e : keyOf d = some k) : v = kV k ∧ d = kD k := by
  cases d with
  | int i => cases e; exact ⟨h.int, rfl⟩
  | str x => cases e; exact ⟨h.str.1, rfl⟩
  | _ => cases e
def eqK : D → Key → Bool
  | .int i, .inl j => decide (i = j)
  | .str x, .inr y => decide (x = y)
  | _, _ => false
theorem eqK_kD {k j : Key} : eqK (kD k) j = decide (k = j) := by
  cases k <;> cases j <;> simp [eqK, kD]
def look : List (D × D) → Key → Option D
  | [], _ => none
  | p :: r, k => if eqK p.1 k = true then some p.2 else look r k
theorem look_v {K : PySem.W.Frag} {H : Hp} {k : Key} : ∀ {kvs : List (Key × V)} {ds : List (D × D)} {d : D}, kvs.map (fun p => kD p.1) = ds.map (·.1) → RpAll K H (kvs.map (·.2)) (ds.map (·.2)) → look ds k = some d → ∃ v, valV kvs k = some v ∧ Rp K H v d
  | [], [], _, _, _, e => by cases e
  | kv :: r, p :: ds, d, e, q, l => by
    rw [List.map_cons, List.map_cons] at e q
    have e1 := (List.cons.inj e).1
    have e2 := (List.cons.inj e).2
    cases q with
    | cons a q =>
      unfold look at l
      rw [← e1, eqK_kD] at l
      by_cases c : kv.1 = k
      · rw [if_pos (decide_eq_true c)] at l
        cases l
        exact ⟨kv.2, valV_pos c, a⟩
      · rw [if_neg (by simpa using c)] at l
        rw [valV_neg c]
        exact look_v e2 q l
  | [], _ :: _, _, e, _, _ => by cases e
  | _ :: _, [], _, e, _, _ => by cases e
def dDGet : D → D → Option Rv
  | .dict ds, k => if isFn ds = true then none else (keyOf k).bind fun k => (look ds k).map .dat
  | _, _ => none
theorem xe_dget {o i : Expr} {fa fb : ME} {pos : Pos} (rm : Rm X) (ho : XE X fa o) (hi : XE X fb i) (hs : NoSl i := by exact fun _ _ => rfl) : XE X (mB dDGet fa fb) (.Subscript o i pos) :=
  pe_weak (pe_dget (by have := rm.un; omega) ho hi hs) fun σ H Q ⟨ρ, O, cs, z, cs', e, en, w, p⟩ => by
    obtain ⟨x, cs1, y, d, e', h1, h2, h3, h4, h5⟩ := mB_some e
    refine ⟨ρ, O, cs, x, cs1, h1, en, w, fun v1 H1 c1 w1 r1 => ?_⟩
    refine ⟨ρ, O, cs1, y, cs', h2, en.ch c1, w1, fun v2 H2 c2 w2 r2 => ?_⟩
    have sx := (r1.deg.ch c2).sh w2 h3
    have sy := r2.deg.sh w2 h4
    cases d with
    | dict ds =>
      have h5 : (if isFn ds = true then none else (keyOf e').bind fun k => (look ds k).map Rv.dat) = some z := h5
      by_cases hf : isFn ds = true
      · rw [if_pos hf] at h5; cases h5
      rw [if_neg hf] at h5
      obtain ⟨k, g1, g2⟩ := Option.bind_eq_some_iff.mp h5
      obtain ⟨t, g3, rfl⟩ := Option.map_eq_some_iff.mp g2
      obtain ⟨a, kvs, rfl, q, e1, r⟩ := sx.dict (by simpa using hf)
      obtain ⟨u, l1, l2⟩ := look_v e1 r g3
      exact ⟨a, u, rfl, .inl ⟨kvs, k, q, (keyOf_v sy g1).1, l1.symm⟩, post_val w2 l2 (p.step (c1.trans c2) w2)⟩
    | _ => cases h5
/-! dict(pairs) -/
def prOf : D → Option (Key × D)
  | .tuple [k, v] => (keyOf k).map fun k => (k, v)
  | _ => none
def prsOf : List D → Option (List (Key × D))
  | [] => some []
  | d :: r => (prOf d).bind fun p => (prsOf r).map fun ps => p :: ps
def dDict : List D → Option Rv
  | [.list ds] => (prsOf ds).bind fun ps => if (ps.map (·.1)).Nodup then some (.dat (.dict (ps.map fun p => (kD p.1, p.2)))) else none
  | _ => none
theorem prsOf_v {K : PySem.W.Frag} {O : List (Option Addr)} {H : Hp} : ∀ {ds : List D} {vs : List V} {ps : List (Key × D)}, RpAll K (hd O H) vs ds → prsOf ds = some ps →
    ∃ (as : List Addr) (kvs : List (Key × V)), vs = as.map V.ref ∧ Paired (fun p kv => SqT K H p [kV kv.1, kv.2]) as kvs ∧ kvs.map (·.1) = ps.map (·.1) ∧ RpAll K (hd O H) (kvs.map (·.2)) (ps.map (·.2))
  | [], vs, ps, r, e => by cases r; cases e; exact ⟨[], [], rfl, .nil, rfl, .nil⟩
  | d :: ds, vs, ps, r, e => by
    obtain ⟨p, h1, h2⟩ := Option.bind_eq_some_iff.mp e
    obtain ⟨qs, h3, h4⟩ := Option.map_eq_some_iff.mp h2
    subst h4
    cases r with
    | cons a t =>
      obtain ⟨as, kvs, e1, e2, e3, e4⟩ := prsOf_v t h3
      subst e1
      unfold prOf at h1
      split at h1
      · rename_i k v
        obtain ⟨k', g1, g2⟩ := Option.map_eq_some_iff.mp h1
        subst g2
        cases a with
        | tup q r2 =>
          cases r2 with
          | cons b1 r2 =>
            cases r2 with
            | cons b2 r2 =>
              cases r2
              rename_i ad u1 u2
              have ek := (keyOf_v (O := O) (.inl b1 : Sh K O H u1 k) g1).1
              refine ⟨ad :: as, (k', u2) :: kvs, rfl, .cons ?_ e2, by simp [e3], .cons b2 e4⟩
              rw [← ek]
              exact sqT_mono hd_le q
      · cases h1
theorem dictCS {K : PySem.W.Frag} : CaS K (fun xs H Q => ∃ (a : Addr) (ps : List Addr) (kvs : List (Key × V)), xs = [.ref a] ∧ SqL K H a (ps.map V.ref) ∧ Paired (fun p kv => SqT K H p [kV kv.1, kv.2]) ps kvs ∧
    ∀ p, H p = none → lockQ Q (.ref p) (upd H p (.dK (mergeK [] kvs)))) dDict := by
  intro O cs H vs ds z Q w hp g p
  match ds, g, hp with
  | [.list ds], g, hp =>
    obtain ⟨x, rfl, sx⟩ := Paired.one hp
    obtain ⟨ps, h1, g⟩ := Option.bind_eq_some_iff.mp g
    obtain ⟨hz, rfl⟩ := ite_some g
    obtain ⟨a, vs, rfl, q, r⟩ := sx.list
    obtain ⟨as, kvs, rfl, e2, e3, e4⟩ := prsOf_v r h1
    refine ⟨a, as, kvs, rfl, q.sq, e2, ?_⟩
    rw [merge_nodup (by rw [List.nil_append, e3]; exact hz), List.nil_append]
    refine post_dict w ?_ ?_ p
    · have : kvs.map (fun p => kD p.1) = (kvs.map (·.1)).map kD := by rw [List.map_map]; rfl
      rw [this, e3, List.map_map, List.map_map]
      rfl
    · rw [List.map_map]
      exact e4
theorem xe_dictP {e : Expr} {fa : MA} {p pos : Pos} (rm : Rm X) (hg : Gl X "dict") (hm : X.mg "dict" = none) (ha : XA X fa [e]) (he : starEach [e] X.env = (false, eval e X.env) :: starEach [] X.env := by rfl) : XE X (mCall dDict fa) (.Call (.Name "dict" p) [e] [] pos) :=
  xe_callTy (callR_lockQ (call_dictP rm.calm)) dictCS hg hm (by decide +kernel) ha (he := he)
end
end DL
namespace DL
open PySem PySem.Spec PyProof.Rows L2
/-! ### recursion: with fuel -/
def recM (n : Nat) (b : MF → MS) : Nat → MF
  | 0 => fun _ _ => none
  | i + 1 => fnM n (b (recM n b i))
theorem fnD_zero {P : Program} {w : World} {K : PySem.W.Frag} {mg : Str → Option Value} {base : Heap} {k : Nat} {f : Addr} {fd : FuncData} {ps : List Str} : FnD P w K mg base k f fd ps (fun _ _ => none) :=
  ⟨fun A outer s H args us vs Q rs O cs r cs' _ _ _ _ _ _ _ _ _ e _ => nomatch e⟩
theorem fnD_rec {P : Program} {w : World} {K : PySem.W.Frag} {mg : Str → Option Value} {base : Heap} {k : Nat} {f : Addr} {fd : FuncData} {ps : List Str} {n : Nat} {b : MF → MS}
    (step : ∀ (j : Nat) (m : MF), FnD P w K mg base (k + j) f fd ps m → FnD P w K mg base (k + j + 1) f fd ps (fnM n (b m))) : ∀ i : Nat, FnD P w K mg base (k + i) f fd ps (recM n b i)
  | 0 => fnD_zero
  | i + 1 => step i _ (fnD_rec step i)
/-! ### the end of a law -/
theorem hd_nil {H : Hp} : hd [] H = H := by
  funext a
  unfold hd
  rw [if_neg (by simp [live])]
theorem ints_rp {K : PySem.W.Frag} {H : Hp} : ∀ {ns : List Int}, RpAll K H (ns.map V.int) (ns.map PyData.int)
  | [] => .nil
  | n :: _ => .cons (.int n) ints_rp
/-- what is known of the heap when the law's def is called -/
structure Pre (s : Shared) (a : Addr) (vs : List Value) (ns : List Int) : Prop where
  nogen : s.gens = #[]
  scr : s.heap.get? a = some { cls := .type "list", data := .seq vs.toArray }
  areI : IntsAre vs ns
  fit : ns.length ≤ sizeLine
/-- the heap that the def sees -/
structure Seen (P : Program) (w : World) (K : PySem.W.Frag) (s : Shared) (a : Addr) (H : Hp) (ns : List Int) : Prop where
  only : Only H
  rp : Rp K H (.ref a) (.list (ns.map .int))
  ok : HOk P w H s.heap
  at_a : ∀ b, H b ≠ none → b = a
  unk : H a ≠ none → K.lookup a = none
def scrO (vs : List Value) : Obj := { cls := .type "list", data := .seq vs.toArray }
def oneH (a : Addr) (o : HO) : Hp := fun b => if b = a then some o else none
theorem oneH_at {a : Addr} {o : HO} : oneH a o a = some o := if_pos rfl
theorem oneH_cases {a b : Addr} {o u : HO} (h : oneH a o b = some u) : b = a ∧ u = o := by
  unfold oneH at h
  split at h
  · exact ⟨by assumption, (Option.some.inj h).symm⟩
  · cases h
theorem seen_of {P : Program} {w : World} {K : PySem.W.Frag} {s : Shared} {a : Addr} {vs : List Value} {ns : List Int} (KX : K.In s.heap) (p : Pre s a vs ns) : ∃ H, Seen P w K s a H ns := by
  have rv := vals_ints p.areI
  have hz : (ns.map V.int).length ≤ sizeLine := by rw [List.length_map]; exact p.fit
  cases hk : K.lookup a with
  | some o =>
    have e := (KX a o hk).symm.trans p.scr
    have e' : o = { cls := .type "list", data := .seq vs.toArray } := Option.some.inj e
    subst e'
    exact ⟨fun _ => none, fun _ => .inl rfl, .lst (.inr ⟨vs, _, hk, hz, rv⟩) ints_rp, (fun _ _ z => nomatch z), fun _ z => (z rfl).elim, fun z => (z rfl).elim⟩
  | none =>
    refine ⟨oneH a (.frz (scrO vs) (.lst (ns.map V.int))), fun b => ?_, .lst (.inl (.inr ⟨_, oneH_at⟩)) ints_rp, fun b u z => ?_, fun b z => ?_, fun _ => hk⟩
    · cases q : oneH a (.frz (scrO vs) (.lst (ns.map V.int))) b with
      | none => exact .inl rfl
      | some u => exact .inr ⟨_, _, by rw [(oneH_cases q).2]⟩
    · obtain ⟨e1, e2⟩ := oneH_cases z
      subst e1 e2
      exact ⟨p.scr, hz, vs, _, rv, p.scr⟩
    · cases q : oneH a (.frz (scrO vs) (.lst (ns.map V.int))) b with
      | none => exact absurd q z
      | some u => exact (oneH_cases q).1
section
variable {P : Program} {w : World} {K : PySem.W.Frag} {s : Shared} {a : Addr} {vs : List Value} {ns : List Int} {H : Hp}
theorem Seen.base (p : Pre s a vs ns) (S : Seen P w K s a H ns) {b : Addr} {m : Str → Option Value} (h : s.heap.Ns b m) : (hidT s.heap H).Ns b m := by
  obtain ⟨o, es, ep, e, d, r⟩ := h
  refine ⟨o, es, ep, hidT_get e ?_, d, r⟩
  cases q : H b with
  | none => rfl
  | some u =>
    have eb := S.at_a b (by rw [q]; exact nofun)
    rw [eb, p.scr] at e
    have e' := Option.some.inj e
    subst e'
    exact nomatch (show Data.seq vs.toArray _ = Data.dict es ep from d)
theorem Seen.kin (KX : K.In s.heap) (S : Seen P w K s a H ns) : K.In (hidT s.heap H) := fun b o e => hidT_get (KX b o e) (by
  cases q : H b with
  | none => rfl
  | some u =>
    have n0 : H b ≠ none := by rw [q]; exact nofun
    have eb := S.at_a b n0
    subst eb
    exact nomatch (S.unk n0).symm.trans e)
theorem Seen.env {mg mb : Str → Option Value} (KX : K.In s.heap) (p : Pre s a vs ns) (S : Seen P w K s a H ns) (hns : s.heap.Ns mainGlobals mg) (hb : s.heap.Ns builtinsNs mb) (hbb : ∀ x : Str, x ≠ "__name__" → mb x = bootBuiltins x) (hlim : s.heap.NoLimit) : Env0 P w K mg (hidT s.heap H) callerA [] s H := by
  refine ⟨rfl, ⟨S.kin KX, S.base p hns, ⟨mb, S.base p hb, hbb⟩, ?_⟩, fun _ _ => of_hidT, Nat.le_of_eq (hidT_size _ _), trivial, fun _ z => absurd z List.not_mem_nil, S.ok, .of_eq p.nogen⟩
  obtain ⟨mc, h1, h2⟩ := hlim
  exact ⟨mc, S.base p h1, h2⟩
end
theorem law_callD {P : Program} {w : World} {K : PySem.W.Frag} {mg mb : Str → Option Value} {k : Nat} {fa a : Addr} {fd : FuncData} {x : Str} {m : MF} {s : Shared} {vs : List Value} {ns : List Int}
    (KX : K.In s.heap) (hns : s.heap.Ns mainGlobals mg) (hb : s.heap.Ns builtinsNs mb) (hbb : ∀ x : Str, x ≠ "__name__" → mb x = bootBuiltins x) (hlim : s.heap.NoLimit) (hnd : s.heap.NoDigits) (p : Pre s a vs ns) (hr : Room k callerA)
    (F : ∀ base : Heap, K.In base → base.Ns mainGlobals mg → FnD P w K mg base k fa fd [x] m) (hbind : ∀ (s : Shared) (u : Value), BindsTo s fd ⟨[u], []⟩ [(x, u)]) (hm : m [.dat (.list (ns.map .int))] [] = some (.dat (.bool true), [])) :
    codeAny (model P w) callerA (.call (.ref fa) ⟨[.ref a], []⟩) (fun r t => r = .ok (.ret (.bool true)) ∧ OldK s.heap t.heap ∧ t.os = s.os ∧ AllBare t.gens) s := by
  obtain ⟨H, S⟩ := seen_of (P := P) (w := w) KX p
  have nd : (hidT s.heap H).NoDigits := by
    obtain ⟨mc, h1, h2⟩ := hnd
    exact ⟨mc, S.base p h1, h2⟩
  have wd : Wd K [] [] H := ⟨rfl, fun _ _ _ h => by simp at h, fun _ _ h => by simp at h, fun _ h => by simp at h⟩
  have ar : ArRs K [] H [.dat (.list (ns.map .int))] [.ref a] := ⟨by show Rp K (hd [] H) _ _; rw [hd_nil]; exact S.rp, trivial⟩
  refine codeAny_mono ((F _ (S.kin KX) (S.base p hns)).run callerA [] s H ⟨[.ref a], []⟩ [.ref a] [.ref a] (fun v _ => v = .bl true) _ [] [] _ _ rfl nd hr (S.env KX p hns hb hbb hlim) (hbind s (.ref a)) (.cons rfl .nil) rfl wd ar hm fun v H' _ _ rv => ?_) fun r t h => ?_
  · have rv' : Rp K (hd [] H') v (.bool true) := rv
    cases rv'
    rfl
  · cases r with
    | error e => exact False.elim h
    | ok fl =>
      cases fl with
      | ret u =>
        obtain ⟨v, H', os, bare, un, ok', ru, ev⟩ := h
        have ev' : v = .bl true := ev
        subst ev'
        cases (show u = Value.bool true from ru)
        refine ⟨rfl, OldK.of_keep fun b o e => ?_, os, bare⟩
        cases q : H b with
        | none => exact un.keep b o e q (fun z => absurd z List.not_mem_nil) (by simp)
        | some t =>
          rcases S.only b with z | ⟨ob, xs, z⟩
          · exact nomatch q.symm.trans z
          · have e1 := (S.ok b _ z).1
            have e2 := (ok' b _ (un.frzs b ob _ z)).1
            rw [Option.some.inj (e.symm.trans e1)]
            exact e2
      | next => exact False.elim h
      | brk => exact False.elim h
      | cont => exact False.elim h
/-- the law's walk, from its mirror -/
theorem walk_ofD {l : PySem.W.OpenLaw} {n k : Nat} {q : Program} {loose : List Str} {XP : (Str → Option Value) → Heap → Prop} {YP : World → Heap → Prop} {d : DefRec} {x : Str} {m : MF}
    (hn : l.most = some n) (hn2 : n ≤ sizeLine) (hdf : d.params.defaults = []) (hr : Room k callerA)
    (F : ∀ (w : World) (mg : Str → Option Value) (fa : Addr) (h : Heap), YP w h → h.Ns mainGlobals mg → mg d.name = some (.ref fa) →
      ∃ (K : PySem.W.Frag) (fd : FuncData), K.In h ∧ (∀ (s : Shared) (u : Value), BindsTo s fd ⟨[u], []⟩ [(x, u)]) ∧ ∀ base : Heap, K.In base → base.Ns mainGlobals mg → FnD l.prog w K mg base k fa fd [x] m)
    (hm : ∀ ns : List Int, ns.length ≤ n → (∀ z ∈ ns, Builtin.Int.intBits z ≤ 1048576) → m [.dat (.list (ns.map .int))] [] = some (.dat (.bool true), [])) :
    PySem.W.WalkO q loose XP YP l.row.toRowW d [] (fun f vs => PySem.call f vs) := by
  refine Att.attach_callB hn hdf fun w s₀ s mg mb fa o pm cd doc a vs ns G Y _ _ _ hmg hobj hints hlen hbits hg => ?_
  obtain ⟨K, fd, KX, hb, hF⟩ := F w mg fa _ Y G.T.g hmg
  exact law_callD KX G.T.g G.T.b G.T.builtins G.T.nolimit G.T.nodigits ⟨hg, hobj, hints, Nat.le_trans hlen hn2⟩ hr hF hb (hm ns hlen hbits)
end DL
namespace DL
open PySem PySem.Spec PyProof.Rows L2
section
variable {X : Cx}
theorem Rm.blk (rm : Rm X) {s : Shared} {H : Hp} {sc : Scope} {ce : Env} {fp : List Addr} : Rm (X.blk s H sc ce fp) := ⟨rm.hd, rm.un, rm.gd, rm.calm, rm.nd⟩
/-- a def, ready to be called -/
structure Cal (P : Program) (w : World) (K : PySem.W.Frag) (mg : Str → Option Value) (base : Heap) (k : Nat) (x : Str) (st : Stmt) (ps : List Str) (m : MF) : Prop where
  ex : ∃ (f : Addr) (fd : FuncData), FunD K x x (defArgs st) (defBody st) (defScope st) [] [] f fd ∧ FnD P w K mg base k f fd ps m ∧ mg x = some (.ref f) ∧ Binds K fd ps []
variable {k j : Nat} {x : Str} {st : Stmt} {ps : List Str} {m : MF}
theorem w_call {n : Nat} {e : Expr} {es : List Expr} {fa : MA} {p pos : Pos} (C : Cal X.prog X.w X.K X.mg X.base j x st ps m) (hr : Room k X.A) (rm : Rm X) (ha : XA X fa (e :: es)) (hj : j ≤ k := by decide) (hg : Gl X x := by rfl) (hdb : (x == ("__debug__" : Str)) = false := by decide)
    (he : starEach (e :: es) X.env = (false, eval e X.env) :: starEach es X.env := by rfl) (hpl : (backTo pos (starEach es X.env)).any (·.1) = false := by rfl) (hn : ps.length = n := by rfl) : XE X (mCallF n m fa) (.Call (.Name x p) (e :: es) [] pos) := by
  subst hn
  obtain ⟨f, fd, F, G, hm, hb⟩ := C.ex
  exact xe_call G (hr.mono hj) rm hg hm F.kp hb ha hdb he hpl
theorem w_call0 {n : Nat} {p pos : Pos} (C : Cal X.prog X.w X.K X.mg X.base j x st ps m) (hr : Room k X.A) (rm : Rm X) (hj : j ≤ k := by decide) (hg : Gl X x := by rfl) (hdb : (x == ("__debug__" : Str)) = false := by decide) (hn : ps.length = n := by rfl) : XE X (mCallF n m aNil) (.Call (.Name x p) [] [] pos) := by
  subst hn
  obtain ⟨f, fd, F, G, hm, hb⟩ := C.ex
  exact xe_call0 G (hr.mono hj) rm hg hm F.kp hb hdb
/-- the binding by keywords, as it computes -/
def KwC (x : Str) (st : Stmt) (ps : List Str) (n : Nat) (ks : List Str) (π : List Nat) : Prop := ∀ (kV doc pm : Value) (an : Option Addr) (cdv ct : Value) (us ws : List Value), us.length = n → ws.length = ks.length →
  bindArgs (PySem.W.fnOf x x (defArgs st) (defBody st) (defScope st) .none kV doc pm an cdv ct) ⟨us, ks.zip ws⟩ = pure (ps.zip (pick π (us ++ ws)))
theorem kwB_of {K : PySem.W.Frag} {f : Addr} {fd : FuncData} {n : Nat} {ks : List Str} {π : List Nat} (F : FunD K x x (defArgs st) (defBody st) (defScope st) [] [] f fd) (h : KwC x st ps n ks π) : KwB K fd ps n ks π := by
  obtain ⟨oc, od, dV, kV, doc, pm, an, cdv, ct, osl, rfl, lk, hcd, hD, hK⟩ := F.ex
  rcases hD with ⟨_, rfl⟩ | ⟨e, _⟩
  · exact ⟨fun s us ws _ h1 h2 => .of_eq (h kV doc pm an cdv ct us ws h1 h2)⟩
  · exact absurd rfl e
theorem w_callK {n n1 n2 : Nat} {ks : List Str} {π : List Nat} {e : Expr} {es : List Expr} {kws : List Keyword} {fa fk : MA} {p pos : Pos} (C : Cal X.prog X.w X.K X.mg X.base j x st ps m) (hr : Room k X.A) (rm : Rm X) (hb : KwC x st ps n ks π) (ha : XA X fa (e :: es)) (hkw : XK X fk kws) (hj : j ≤ k := by decide) (hg : Gl X x := by rfl)
    (hall : (backToKw pos (keywordEach kws X.env)).all (·.1.isSome) = true := by rfl) (hks : (backToKw pos (keywordEach kws X.env)).filterMap (·.1) = ks := by rfl)
    (hdb : (x == ("__debug__" : Str)) = false := by decide) (he : starEach (e :: es) X.env = (false, eval e X.env) :: starEach es X.env := by rfl)
    (hpl : ((backTo pos (starEach (e :: es) X.env)).any (·.1) || (backToKw pos (keywordEach kws X.env)).any (·.1.isNone)) = false := by rfl) (e1 : ks.length = n1 := by rfl) (e2 : ps.length = n2 := by rfl) : XE X (mCallK n n1 n2 π m fa fk) (.Call (.Name x p) (e :: es) kws pos) := by
  subst e1 e2
  obtain ⟨f, fd, F, G, hm, _⟩ := C.ex
  exact xe_callK G (hr.mono hj) rm hg hm F.kp (kwB_of F hb) ha hkw hall hks hdb he hpl
theorem w_callK0 {n1 n2 : Nat} {ks : List Str} {π : List Nat} {kws : List Keyword} {fk : MA} {p pos : Pos} (C : Cal X.prog X.w X.K X.mg X.base j x st ps m) (hr : Room k X.A) (rm : Rm X) (hb : KwC x st ps 0 ks π) (hkw : XK X fk kws) (hj : j ≤ k := by decide) (hg : Gl X x := by rfl)
    (hall : (backToKw pos (keywordEach kws X.env)).all (·.1.isSome) = true := by rfl) (hks : (backToKw pos (keywordEach kws X.env)).filterMap (·.1) = ks := by rfl)
    (hdb : (x == ("__debug__" : Str)) = false := by decide)
    (hpl : ((backTo pos (starEach [] X.env)).any (·.1) || (backToKw pos (keywordEach kws X.env)).any (·.1.isNone)) = false := by rfl) (e1 : ks.length = n1 := by rfl) (e2 : ps.length = n2 := by rfl) : XE X (mCallK 0 n1 n2 π m aNil fk) (.Call (.Name x p) [] kws pos) := by
  subst e1 e2
  obtain ⟨f, fd, F, G, hm, _⟩ := C.ex
  exact xe_callK0 G (hr.mono hj) rm hg hm F.kp (kwB_of F hb) hkw hall hks hdb hpl
/-- a def's own contract -/
theorem cal_of {P : Program} {w : World} {K : PySem.W.Frag} {mg : Str → Option Value} {base : Heap} {N : List Str} {b : MS} (F : ∃ f fd, FunD K x x (defArgs st) (defBody st) (defScope st) [] [] f fd ∧ mg x = some (.ref f)) (S : FnScope N ps (defScope st))
    (hb : ∀ (kV doc pm : Value) (an : Option Addr) (cdv ct : Value) (us : List Value), us.length = ps.length → bindArgs (PySem.W.fnOf x x (defArgs st) (defBody st) (defScope st) .none kV doc pm an cdv ct) ⟨us, []⟩ = pure (ps.zip us))
    (h : ∀ (f : Addr) (cdv : Value) (A : Around) (outer : List Env) (s : Shared) (H : Hp), Room k (A.deeper (envOfC x (defScope st) s.heap.objs.size f cdv)) → Rm (cxD P w K mg base N x (defScope st) f cdv A outer s H) → XSs (cxD P w K mg base N x (defScope st) f cdv A outer s H) b (defBody st)) :
    Cal P w K mg base (k + 1) x st ps (fnM N.length b) := by
  obtain ⟨f, fd, F, hm⟩ := F
  exact ⟨f, fd, F, fnD_of F S fun cdv A outer s H hr rm => h f cdv A outer s H hr rm, hm, F.bindsN hb⟩
theorem Cal.mono {P : Program} {w : World} {K : PySem.W.Frag} {mg : Str → Option Value} {base : Heap} {i : Nat} (C : Cal P w K mg base k x st ps m) (h : k ≤ i) : Cal P w K mg base i x st ps m := by
  obtain ⟨f, fd, F, G, hm, hb⟩ := C.ex
  exact ⟨f, fd, F, G.mono h, hm, hb⟩
/-- a def that calls itself: fuel i -/
theorem cal_rec {P : Program} {w : World} {K : PySem.W.Frag} {mg : Str → Option Value} {base : Heap} {N : List Str} {b : MF → MS} (i : Nat) (F : ∃ f fd, FunD K x x (defArgs st) (defBody st) (defScope st) [] [] f fd ∧ mg x = some (.ref f)) (S : FnScope N ps (defScope st))
    (hb : ∀ (kV doc pm : Value) (an : Option Addr) (cdv ct : Value) (us : List Value), us.length = ps.length → bindArgs (PySem.W.fnOf x x (defArgs st) (defBody st) (defScope st) .none kV doc pm an cdv ct) ⟨us, []⟩ = pure (ps.zip us))
    (h : ∀ (l : Nat) (m : MF), Cal P w K mg base (k + l) x st ps m → ∀ (f : Addr) (cdv : Value) (A : Around) (outer : List Env) (s : Shared) (H : Hp), Room (k + l) (A.deeper (envOfC x (defScope st) s.heap.objs.size f cdv)) → Rm (cxD P w K mg base N x (defScope st) f cdv A outer s H) → XSs (cxD P w K mg base N x (defScope st) f cdv A outer s H) (b m) (defBody st)) :
    Cal P w K mg base (k + i) x st ps (recM N.length b i) := by
  obtain ⟨f, fd, F, hm⟩ := F
  exact ⟨f, fd, F, fnD_rec (fun l m G => fnD_of F S fun cdv A outer s H hr rm => h l m ⟨f, fd, F, G, hm, F.bindsN hb⟩ f cdv A outer s H hr rm) i, hm, F.bindsN hb⟩
/-! words: what is seen of the text is found by rfl -/
theorem w_var (i : Nat) {pos : Pos} (hN : X.N[i]? = some x := by rfl) (hv : Vis X.env.scope x := by first | exact Or.inl rfl | exact Or.inr (Or.inl rfl) | exact Or.inr (Or.inr rfl)) (hd : (x == ("__debug__" : Str)) = false := by decide) (hcd : (x == ("__classdict__" : Str)) = false := by decide) : XE X (xVar i) (.Name x pos) := xe_var hN hv hd hcd
theorem w_gint {i : Int} {pos : Pos} (hm : ∃ t, X.mg x = some (.int i t)) (hg : Gl X x := by rfl) (hd : (x == ("__debug__" : Str)) = false := by decide) : XE X (xC (.int i)) (.Name x pos) := by
  obtain ⟨t, ht⟩ := hm
  exact xe_gint hg ht hd
theorem w_gstr {z : Str} {pos : Pos} (hm : ∃ t, X.mg x = some (.str z t)) (hg : Gl X x := by rfl) (hd : (x == ("__debug__" : Str)) = false := by decide) (h : z.length ≤ sizeLine := by decide +kernel) : XE X (xC (.str z)) (.Name x pos) := by
  obtain ⟨t, ht⟩ := hm
  exact xe_gstr hg ht hd h
theorem w_set (i : Nat) {e : Expr} {f : ME} {pos pos' : Pos} (hN : X.N.Nodup) (he : XE X f e) (hi : X.N[i]? = some x := by rfl) (hx : Loc X.env.scope x := by first | exact Or.inl rfl | exact Or.inr rfl) (hs : swapsWith e (some (.Name x pos')) pos.line X.env = pure false := by rfl)
    (hf : X.fn x = true ∨ X.env.scope.names.lookup x = some .local := by first | exact .inl rfl | exact .inr rfl) : XS X (sSet i f) (.Assign [.Name x pos'] e pos) := xs_set hN hi hx he hs hf
theorem w_own (i : Nat) {e : Expr} {f : ME} {pos pos' : Pos} (hN : X.N.Nodup) (he : XE X f e) (hi : X.N[i]? = some x := by rfl) (hx : Loc X.env.scope x := by first | exact Or.inl rfl | exact Or.inr rfl) (hs : swapsWith e (some (.Name x pos')) pos.line X.env = pure false := by rfl)
    (hf : X.fn x = true ∨ X.env.scope.names.lookup x = some .local := by first | exact .inl rfl | exact .inr rfl) : XS X (sOwn i f) (.Assign [.Name x pos'] e pos) := xs_own hN hi hx he hs hf
theorem w_gn (i : Nat) {pos : Pos} {vs : List Nat} (hN : X.N.Nodup) (hi : X.N[i]? = some x := by rfl) (hx : Loc X.env.scope x := by first | exact Or.inl rfl | exact Or.inr rfl) (hm : i ∈ vs := by simp) (hf : X.fn x = true ∨ X.env.scope.names.lookup x = some .local := by first | exact .inl rfl | exact .inr rfl) : XG X vs (gNm i) (.Name x pos) :=
  xg_name hN hi hx hm hf
theorem w_app (i : Nat) {e : Expr} {fe : ME} {p1 apos cpos pos : Pos} (he : XE X fe e) (hN : X.N[i]? = some x := by rfl) (hv : Vis X.env.scope x := by first | exact Or.inl rfl | exact Or.inr (Or.inl rfl) | exact Or.inr (Or.inr rfl))
    (hs : starEach [e] X.env = (false, eval e X.env) :: starEach [] X.env := by rfl)
    (hbase : attributeBase (.Name x p1) "append" X.env (eval (.Name x p1) X.env) = eval (.Name x p1) X.env := by rfl)
    (hfew : ((backTo cpos (starEach [e] X.env)).all (fun x => !x.1) && (backToKw cpos (keywordEach [] X.env)).all (fun x => x.1.isSome)
      && decide ([e].length + ([] : List Keyword).length + (if ([] : List Keyword).isEmpty then 0 else 1) < 30)) = true := by rfl)
    (hline : (apos.endLine == cpos.line) = true := by rfl) (hplain : (backTo cpos (starEach [] X.env)).any (·.1) = false := by rfl)
    (hsw : swapsWith (.Call (.Attribute (.Name x p1) "append" apos) [e] [] cpos) none pos.line X.env = pure false := by rfl)
    (hd : (x == ("__debug__" : Str)) = false := by decide) (hcd : (x == ("__classdict__" : Str)) = false := by decide) :
    XS X (sApp i fe) (.Expr (.Call (.Attribute (.Name x p1) "append" apos) [e] [] cpos) pos) := xs_app hN hv he hs hbase hfew hline hplain hsw hd hcd
theorem w_put (n : Nat) {i e : Expr} {fi fe : ME} {p1 p2 pos : Pos} (hi : XE X fi i) (he : XE X fe e) (hN : X.N[n]? = some x := by rfl) (hv : Vis X.env.scope x := by first | exact Or.inl rfl | exact Or.inr (Or.inl rfl) | exact Or.inr (Or.inr rfl))
    (ha : ∀ v, assign (.Subscript (.Name x p1) i p2) X.env v = (do
      let ov ← holding [v] (eval (.Name x p1) X.env)
      let iv ← holding [v, ov] (eval i X.env)
      standAt p2
      holding [v, ov, iv] (setItem ov iv v)
      release [v, ov, iv] []) := by intro _; rfl)
    (hs : swapsWithSole [.Subscript (.Name x p1) i p2] e pos.line X.env = pure false := by rfl) (hw : swappedStores [.Subscript (.Name x p1) i p2] e X.env = pure none := by rfl)
    (h1 : (assignEach [.Subscript (.Name x p1) i p2] X.env).map (·.2) = [assign (.Subscript (.Name x p1) i p2) X.env] := by rfl)
    (hd : (x == ("__debug__" : Str)) = false := by decide) (hcd : (x == ("__classdict__" : Str)) = false := by decide) :
    XS X (sPut n fi fe) (.Assign [.Subscript (.Name x p1) i p2] e pos) := xs_put hN hv hi he ha hs hw h1 hd hcd
theorem w_for (ws : List Nat) {tg iter : Expr} {body : List Stmt} {f : MI} {g : MG} {b : MS} {pos : Pos} (hi : XI X f tg iter) (hg : XG X ws g tg) (hb : XSs X b body) (hp : PassesOwn (model X.prog X.w) X.A X.env X.xe := by exact PassesOwn.never) (hc : X.calm = true := by rfl)
    (hs : ∀ x, foldedSetIterable iter X.env x = pure x := by intro _; rfl) : XS X (sFor f g b) (.For tg iter body [] pos) := xs_for hp hc hi hg hb hs
theorem w_while {c : Expr} {body : List Stmt} {t : MT} {b : MS} {pos : Pos} (hc : XT X t c) (hb : XSs X b body) (hp : PassesOwn (model X.prog X.w) X.A X.env X.xe := by exact PassesOwn.never) : XS X (sWh t b) (.While c body [] pos) := xs_while hp hc hb
end
end DL
namespace DL
open PySem PySem.Spec PyProof.Rows L2
section
variable {X : Cx}
/-! ### arguments some of which become owned cells at once -/
def tXAo (K : PySem.W.Frag) (f : MA) : TA := fun σ H Q => ∃ ρ O cs rs cs', f ρ cs = some (rs, cs') ∧ EnvOk K O H ρ σ ∧ Wd K O cs H ∧ ∀ vs O' H', Ext O.length O O' H → Ch O H H' → Wd K O' cs' H' → ArRs K O' H' rs vs → Q vs H'
def XAo (X : Cx) (f : MA) (es : List Expr) : Prop := PA X es (tXAo X.K f)
theorem ArR.extO {K : PySem.W.Frag} {O O' : List (Option Addr)} {H H' : Hp} {r : Rv} {v : V} (e : Ext O.length O O' H) (c : Ch O H H') (h : ArR K O r v H) : ArR K O' r v H' := by
  cases r with
  | dat d => exact Rp.mono (Sub.of e c) h
  | own k =>
    obtain ⟨a, ev, q⟩ := h
    exact ⟨a, ev, by rw [e.pre k (List.getElem?_eq_some_iff.mp q).1]; exact q⟩
  | fr c => exact h.elim
  | exn nm d => exact ExAt.mono (Sub.of e c) h
theorem EnvOk.extO {K : PySem.W.Frag} {O O' : List (Option Addr)} {H H' : Hp} {ρ : Rho} {σ : L2.St} (en : EnvOk K O H ρ σ) (e : Ext O.length O O' H) (c : Ch O H H') : EnvOk K O' H' ρ σ :=
  ⟨en.len, fun i r h => let ⟨v, h1, h2⟩ := en.slot i r h; ⟨v, h1, h2.extO e c⟩⟩
theorem Ext.low {n m : Nat} {O O' : List (Option Addr)} {H : Hp} (e : Ext n O O' H) (h : m ≤ n) : Ext m O O' H := ⟨fun i hi => e.pre i (by omega), e.sub⟩
theorem xao_nil : XAo X aNil [] := pa_weak pa_nil fun σ H Q ⟨ρ, O, cs, rs, cs', e, en, w, p⟩ => by
  cases e
  exact p [] O H .refl .refl w trivial
/-- an item that is data -/
def aDat (fa : ME) (fr : MA) : MA := fun ρ cs => (fa ρ cs).bind fun p => match deg p.1 with
  | .dat d => (fr ρ p.2).map fun q => (.dat d :: q.1, q.2)
  | _ => none
/-- an item that is a fresh list: an owned cell -/
def aOwn (fa : ME) (fr : MA) : MA := fun ρ cs => (fa ρ cs).bind fun p => match p.1 with
  | .fr c => (fr ρ (p.2 ++ [some c])).map fun q => (.own p.2.length :: q.1, q.2)
  | _ => none
theorem xao_dat {e : Expr} {es : List Expr} {fa : ME} {fr : MA} (ha : XE X fa e) (hr : XAo X fr es) (hs : starEach (e :: es) X.env = (false, eval e X.env) :: starEach es X.env := by rfl) : XAo X (aDat fa fr) (e :: es) :=
  pa_weak (pa_cons ha hr hs) fun σ H Q ⟨ρ, O, cs, rs, cs', e0, en, w, p⟩ => by
    obtain ⟨⟨x, cs1⟩, h1, e1⟩ := Option.bind_eq_some_iff.mp e0
    refine ⟨ρ, O, cs, x, cs1, h1, en, w, fun v1 H1 c1 w1 r1 => ?_⟩
    have rr := r1.deg
    dsimp only at e1
    split at e1
    · rename_i d hd'
      obtain ⟨⟨r, cs2⟩, h2, e2⟩ := Option.map_eq_some_iff.mp e1
      cases e2
      rw [hd'] at rr
      exact ⟨ρ, O, cs1, r, cs2, h2, en.ch c1, w1, fun vs O' H2 e2 c2 w2 r2 => p _ O' H2 (Ext.refl.trans w w1 c1 e2) (c1.trans c2) w2 ⟨rr.extO e2 c2, r2⟩⟩
    · cases e1
theorem xao_own {e : Expr} {es : List Expr} {fa : ME} {fr : MA} (ha : XE X fa e) (hr : XAo X fr es) (hs : starEach (e :: es) X.env = (false, eval e X.env) :: starEach es X.env := by rfl) : XAo X (aOwn fa fr) (e :: es) :=
  pa_weak (pa_cons ha hr hs) fun σ H Q ⟨ρ, O, cs, rs, cs', e0, en, w, p⟩ => by
    obtain ⟨⟨x, cs1⟩, h1, e1⟩ := Option.bind_eq_some_iff.mp e0
    refine ⟨ρ, O, cs, x, cs1, h1, en, w, fun v1 H1 c1 w1 r1 => ?_⟩
    cases x with
    | fr l =>
      obtain ⟨⟨r, cs2⟩, h2, e2⟩ := Option.map_eq_some_iff.mp e1
      cases e2
      obtain ⟨q, rfl, hq, w2⟩ := r1
      have ex : Ext O.length O (O ++ [some q]) H := ext_new (K := X.K) (Nat.le_refl _) hq
      refine ⟨ρ, O ++ [some q], cs1 ++ [some l], r, cs2, h2, en.extO ex c1, w2, fun vs O' H2 e2 c2 w3 r2 => ?_⟩
      have e2' : Ext O.length (O ++ [some q]) O' H1 := e2.low (by simp)
      refine p _ O' H2 (ex.trans w w2 c1 e2') (c1.ext ex c2) w3 ⟨⟨q, rfl, ?_⟩, r2⟩
      rw [e2.pre _ (by rw [w1.len]; simp), w1.len]
      simp
    | _ => cases e1
/-- a, b = x, y -/
def sParO (i j : Nat) (fa : MA) : MS := fun _ ρ cs => (fa ρ cs).bind fun p => match p.1 with
  | [r, t] => some (.nx ((ρ.set i (some r)).set j (some t)) p.2)
  | _ => none
def sPar3 (i j l : Nat) (fa : MA) : MS := fun _ ρ cs => (fa ρ cs).bind fun p => match p.1 with
  | [r, t, u] => some (.nx (((ρ.set i (some r)).set j (some t)).set l (some u)) p.2)
  | _ => none
theorem xs_parO {i j : Nat} {x y : Str} {a b : Expr} {fa : MA} {px py pt pos : Pos} {kt k2 pt2} (hc : X.calm = true) (hN : X.N.Nodup) (ha : XAo X fa [a, b]) (hi : X.N[i]? = some x := by rfl) (hj : X.N[j]? = some y := by rfl) (hij : i ≠ j := by decide)
    (hx : X.env.scope.names.lookup x = some .local := by rfl) (hy : X.env.scope.names.lookup y = some .local := by rfl)
    (hw : swappedStores [.Tuple [.Name x px, .Name y py] kt pt] (.Tuple [a, b] k2 pt2) X.env = pure (some [x, y]) := by rfl)
    (hs : swapsWithSole [.Tuple [.Name x px, .Name y py] kt pt] (.Tuple [a, b] k2 pt2) pos.line X.env = pure false := by rfl) :
    XS X (sParO i j fa) (.Assign [.Tuple [.Name x px, .Name y py] kt pt] (.Tuple [a, b] k2 pt2) pos) :=
  ps_weak (ps_par hc hN hi hj hij hx hy ha hw hs) fun D σ H ⟨n0, ρ, O, cs, out, e0, hn, en, w, p⟩ => by
    obtain ⟨⟨rs, cs1⟩, h1, h2⟩ := Option.bind_eq_some_iff.mp e0
    refine ⟨ρ, O, cs, rs, cs1, h1, en, w, fun vs O' H' e c w' ra => ?_⟩
    dsimp only at h2
    split at h2
    · rename_i _ d t
      cases h2
      match vs, ra with
      | [v, u], ra => exact ⟨v, u, rfl, p _ O' H' (e.low hn) c (((en.extO e c).set i ra.1).set j ra.2.1) w'⟩
      | [], ra => exact ra.elim
      | [_], ra => exact ra.2.elim
      | _ :: _ :: _ :: _, ra => exact ra.2.2.elim
    · cases h2
theorem xs_par3 {i j l : Nat} {x y z : Str} {a b c : Expr} {fa : MA} {px py pz pt pos : Pos} {kt k2 pt2} (hc : X.calm = true) (hN : X.N.Nodup) (ha : XAo X fa [a, b, c]) (hi : X.N[i]? = some x := by rfl) (hj : X.N[j]? = some y := by rfl) (hl : X.N[l]? = some z := by rfl)
    (hij : i ≠ j := by decide) (hil : i ≠ l := by decide) (hjl : j ≠ l := by decide) (hx : X.env.scope.names.lookup x = some .local := by rfl) (hy : X.env.scope.names.lookup y = some .local := by rfl) (hz : X.env.scope.names.lookup z = some .local := by rfl)
    (hw : swappedStores [.Tuple [.Name x px, .Name y py, .Name z pz] kt pt] (.Tuple [a, b, c] k2 pt2) X.env = pure (some [x, y, z]) := by rfl)
    (hs : swapsWithSole [.Tuple [.Name x px, .Name y py, .Name z pz] kt pt] (.Tuple [a, b, c] k2 pt2) pos.line X.env = pure false := by rfl) :
    XS X (sPar3 i j l fa) (.Assign [.Tuple [.Name x px, .Name y py, .Name z pz] kt pt] (.Tuple [a, b, c] k2 pt2) pos) :=
  ps_weak (ps_par3 hc hN hi hj hl hij hil hjl hx hy hz ha hw hs) fun D σ H ⟨n0, ρ, O, cs, out, e0, hn, en, w, p⟩ => by
    obtain ⟨⟨rs, cs1⟩, h1, h2⟩ := Option.bind_eq_some_iff.mp e0
    refine ⟨ρ, O, cs, rs, cs1, h1, en, w, fun vs O' H' e c w' ra => ?_⟩
    dsimp only at h2
    split at h2
    · cases h2
      match vs, ra with
      | [v, u, t], ra => exact ⟨v, u, t, rfl, p _ O' H' (e.low hn) c ((((en.extO e c).set i ra.1).set j ra.2.1).set l ra.2.2.1) w'⟩
      | [], ra => exact ra.elim
      | [_], ra => exact ra.2.elim
      | [_, _], ra => exact ra.2.2.elim
      | _ :: _ :: _ :: _ :: _, ra => exact ra.2.2.2.elim
    · cases h2
/-! ### all, any of a list -/
def fitB : D → Bool
  | .str x => decide (x.length ≤ sizeLine)
  | .list xs => decide (xs.length ≤ sizeLine)
  | .tuple xs => decide (xs.length ≤ sizeLine)
  | _ => true
theorem fitB_ok {d : D} (h : fitB d = true) : d.fits63 := by
  have key : ∀ {n : Nat}, n ≤ sizeLine → (n : Int) < 2 ^ 63 := fun {n} h => by rw [sizeLine_eq] at h; omega
  cases d with
  | str x => exact key (of_decide_eq_true h)
  | list x => exact key (of_decide_eq_true h)
  | tuple x => exact key (of_decide_eq_true h)
  | _ => trivial
def allOk (ds : List D) : Bool := PyData.plainAll ds && ds.all fitB
def rAllD (K : PySem.W.Frag) (g : List D → Bool) : List V → Hp → VK → Prop := fun xs H Q => ∃ (a : Addr) (vs : List V) (ds : List D), xs = [.ref a] ∧ SqL K H a vs ∧ RpAll K H vs ds ∧ allOk ds = true ∧ Q (.bl (g ds)) H
theorem call_allD (rm : Rm X) : CallR X (.builtin "all") (rAllD X.K fun ds => ds.all PyData.truthy) := by
  intro pins s σ H xs us Q I r h
  obtain ⟨a, vs, ds, rfl, hs, hr, ok, q⟩ := h
  obtain ⟨o1, o2⟩ := Bool.and_eq_true_iff.mp ok
  obtain ⟨its, rv, pl, hz⟩ := I.list hs
  rw [Vals.ref1 r]
  obtain ⟨as, rd⟩ := RpAll.reads I hr (noFs_plain o1) its rv
  exact PySem.W.all_list_data (vs := its.toArray) (I.ok.hd rm.calm) pl.isList (by simpa using rd) o1 (fun x hx => fitB_ok (List.all_eq_true.mp o2 x hx)) fun h' tk k => ⟨.bl _, H, I.kept k, rfl, q⟩
theorem call_anyD (rm : Rm X) : CallR X (.builtin "any") (rAllD X.K fun ds => ds.any PyData.truthy) := by
  intro pins s σ H xs us Q I r h
  obtain ⟨a, vs, ds, rfl, hs, hr, ok, q⟩ := h
  obtain ⟨o1, o2⟩ := Bool.and_eq_true_iff.mp ok
  obtain ⟨its, rv, pl, hz⟩ := I.list hs
  rw [Vals.ref1 r]
  obtain ⟨as, rd⟩ := RpAll.reads I hr (noFs_plain o1) its rv
  exact PySem.W.any_list_data (vs := its.toArray) (I.ok.hd rm.calm) pl.isList (by simpa using rd) o1 (fun x hx => fitB_ok (List.all_eq_true.mp o2 x hx)) fun h' tk k => ⟨.bl _, H, I.kept k, rfl, q⟩
def dAll : List D → Option Rv
  | [.list ds] => if allOk ds = true then some (db (ds.all PyData.truthy)) else none
  | _ => none
def dAny : List D → Option Rv
  | [.list ds] => if allOk ds = true then some (db (ds.any PyData.truthy)) else none
  | _ => none
theorem allCS {K : PySem.W.Frag} : CaS K (rAllD K fun ds => ds.all PyData.truthy) dAll := by
  intro O cs H vs ds z Q w hp g p
  match ds, g, hp with
  | [.list ds], g, hp =>
    obtain ⟨x, rfl, sx⟩ := Paired.one hp
    obtain ⟨hz, rfl⟩ := ite_some g
    obtain ⟨a, vs, rfl, q, r⟩ := sx.list
    exact ⟨a, vs, ds, rfl, q.sq, r.mono hd_le, hz, post_bool w p⟩
theorem anyCS {K : PySem.W.Frag} : CaS K (rAllD K fun ds => ds.any PyData.truthy) dAny := by
  intro O cs H vs ds z Q w hp g p
  match ds, g, hp with
  | [.list ds], g, hp =>
    obtain ⟨x, rfl, sx⟩ := Paired.one hp
    obtain ⟨hz, rfl⟩ := ite_some g
    obtain ⟨a, vs, rfl, q, r⟩ := sx.list
    exact ⟨a, vs, ds, rfl, q.sq, r.mono hd_le, hz, post_bool w p⟩
theorem xe_all {e : Expr} {fa : MA} {p pos : Pos} (rm : Rm X) (hg : Gl X "all") (hm : X.mg "all" = none) (ha : XA X fa [e]) (he : starEach [e] X.env = (false, eval e X.env) :: starEach [] X.env := by rfl) : XE X (mCall dAll fa) (.Call (.Name "all" p) [e] [] pos) :=
  xe_callB (call_allD rm) allCS hg hm (by decide +kernel) ha (he := he)
theorem xe_any {e : Expr} {fa : MA} {p pos : Pos} (rm : Rm X) (hg : Gl X "any") (hm : X.mg "any" = none) (ha : XA X fa [e]) (he : starEach [e] X.env = (false, eval e X.env) :: starEach [] X.env := by rfl) : XE X (mCall dAny fa) (.Call (.Name "any" p) [e] [] pos) :=
  xe_callB (call_anyD rm) anyCS hg hm (by decide +kernel) ha (he := he)
/-! ### max, min of a list of ints -/
def maxI : List Int → Int
  | [] => 0
  | [a] => a
  | a :: r => max a (maxI r)
def minI : List Int → Int
  | [] => 0
  | [a] => a
  | a :: r => min a (minI r)
theorem maxI_mem : ∀ {l : List Int}, l ≠ [] → maxI l ∈ l ∧ ∀ y ∈ l, y ≤ maxI l
  | [], h => absurd rfl h
  | [a], _ => ⟨by simp [maxI], by simp [maxI]⟩
  | a :: b :: r, _ => by
    obtain ⟨h1, h2⟩ := maxI_mem (l := b :: r) (by simp)
    show max a (maxI (b :: r)) ∈ _ ∧ ∀ y ∈ _, y ≤ max a (maxI (b :: r))
    refine ⟨?_, fun y hy => ?_⟩
    · rcases Int.le_total a (maxI (b :: r)) with h | h
      · rw [Int.max_eq_right h]; exact List.mem_cons_of_mem _ h1
      · rw [Int.max_eq_left h]; exact List.mem_cons_self ..
    · rcases List.mem_cons.mp hy with h | h
      · rw [h]; exact Int.le_max_left _ _
      · exact Int.le_trans (h2 y h) (Int.le_max_right _ _)
theorem minI_mem : ∀ {l : List Int}, l ≠ [] → minI l ∈ l ∧ ∀ y ∈ l, minI l ≤ y
  | [], h => absurd rfl h
  | [a], _ => ⟨by simp [minI], by simp [minI]⟩
  | a :: b :: r, _ => by
    obtain ⟨h1, h2⟩ := minI_mem (l := b :: r) (by simp)
    show min a (minI (b :: r)) ∈ _ ∧ ∀ y ∈ _, min a (minI (b :: r)) ≤ y
    refine ⟨?_, fun y hy => ?_⟩
    · rcases Int.le_total a (minI (b :: r)) with h | h
      · rw [Int.min_eq_left h]; exact List.mem_cons_self ..
      · rw [Int.min_eq_right h]; exact List.mem_cons_of_mem _ h1
    · rcases List.mem_cons.mp hy with h | h
      · rw [h]; exact Int.min_le_left _ _
      · exact Int.le_trans (Int.min_le_right _ _) (h2 y h)
def dMaxL : List D → Option Rv
  | [.list ds] => (intsD ds).bind fun is => if is ≠ [] then some (di (maxI is)) else none
  | _ => none
def dMinL : List D → Option Rv
  | [.list ds] => (intsD ds).bind fun is => if is ≠ [] then some (di (minI is)) else none
  | _ => none
theorem maxLCS {K : PySem.W.Frag} : CaS K (rMax K) dMaxL := by
  intro O cs H vs ds z Q w hp g p
  match ds, g, hp with
  | [.list ds], g, hp =>
    obtain ⟨x, rfl, sx⟩ := Paired.one hp
    obtain ⟨is, h1, g⟩ := Option.bind_eq_some_iff.mp g
    obtain ⟨hz, rfl⟩ := ite_some g
    obtain ⟨a, vs, rfl, q, r⟩ := sx.list
    have e := intsD_v r h1
    subst e
    obtain ⟨m1, m2⟩ := maxI_mem hz
    refine ⟨a, is, rfl, q.sq, List.length_pos_iff.mpr hz, fun m hm hle => ?_⟩
    have : m = maxI is := Int.le_antisymm (m2 m hm) (hle _ m1)
    rw [this]
    exact post_int w p
theorem minLCS {K : PySem.W.Frag} : CaS K (rMin K) dMinL := by
  intro O cs H vs ds z Q w hp g p
  match ds, g, hp with
  | [.list ds], g, hp =>
    obtain ⟨x, rfl, sx⟩ := Paired.one hp
    obtain ⟨is, h1, g⟩ := Option.bind_eq_some_iff.mp g
    obtain ⟨hz, rfl⟩ := ite_some g
    obtain ⟨a, vs, rfl, q, r⟩ := sx.list
    have e := intsD_v r h1
    subst e
    obtain ⟨m1, m2⟩ := minI_mem hz
    refine ⟨a, is, rfl, q.sq, List.length_pos_iff.mpr hz, fun m hm hle => ?_⟩
    have : m = minI is := Int.le_antisymm (hle _ m1) (m2 m hm)
    rw [this]
    exact post_int w p
theorem xe_maxL {e : Expr} {fa : MA} {p pos : Pos} (rm : Rm X) (hg : Gl X "max") (hm : X.mg "max" = none) (ha : XA X fa [e]) (he : starEach [e] X.env = (false, eval e X.env) :: starEach [] X.env := by rfl) : XE X (mCall dMaxL fa) (.Call (.Name "max" p) [e] [] pos) :=
  xe_callB (cr_max rm.calm) maxLCS hg hm (by decide +kernel) ha (he := he)
theorem xe_minL {e : Expr} {fa : MA} {p pos : Pos} (rm : Rm X) (hg : Gl X "min") (hm : X.mg "min" = none) (ha : XA X fa [e]) (he : starEach [e] X.env = (false, eval e X.env) :: starEach [] X.env := by rfl) : XE X (mCall dMinL fa) (.Call (.Name "min" p) [e] [] pos) :=
  xe_callB (cr_min rm.calm) minLCS hg hm (by decide +kernel) ha (he := he)
/-! ### list(range(..)) -/
theorem rg_rp {K : PySem.W.Frag} {H : Hp} (a b : Int) : RpAll K H (rgV a b) (rngD a (b - a).toNat) := by
  unfold rgV rngD
  induction (List.range (b - a).toNat) with
  | nil => exact .nil
  | cons n r ih => exact .cons (.int _) ih
def rgOkB (a b : Int) : Bool := decide (-(2 ^ 62) ≤ a) && decide (a < 2 ^ 62) && decide (-(2 ^ 62) ≤ b) && decide (b < 2 ^ 62) && decide ((b - a).toNat ≤ 2 ^ 24)
theorem rgOk_of {a b : Int} (h : rgOkB a b = true) : RgOk a b := by
  unfold rgOkB at h
  simp only [Bool.and_eq_true, decide_eq_true_eq] at h
  exact ⟨h.1.1.1.1, h.1.1.1.2, h.1.1.2, h.1.2, h.2⟩
def mLR1 (fa : ME) : ME := fun ρ cs => (fa ρ cs).bind fun p => (intOf p.1).bind fun n => if rgOkB 0 n = true then some (.fr (rngD 0 (n - 0).toNat), p.2) else none
def mLR2 (fa fb : ME) : ME := fun ρ cs => (fa ρ cs).bind fun p => (fb ρ p.2).bind fun q => (intOf p.1).bind fun a => (intOf q.1).bind fun b => if rgOkB a b = true then some (.fr (rngD a (b - a).toNat), q.2) else none
theorem xe_lr1 {a : Expr} {fa : ME} {p pos p2 pos2 : Pos} (rm : Rm X) (hg : Gl X "list") (hm : X.mg "list" = none) (hg2 : Gl X "range") (hm2 : X.mg "range" = none) (ha : XE X fa a) (na : starEach [a] X.env = (false, eval a X.env) :: starEach [] X.env := by rfl)
    (nb : starEach [.Call (.Name "range" p2) [a] [] pos2] X.env = (false, eval (.Call (.Name "range" p2) [a] [] pos2) X.env) :: starEach [] X.env := by rfl) : XE X (mLR1 fa) (.Call (.Name "list" p) [.Call (.Name "range" p2) [a] [] pos2] [] pos) :=
  pe_weak (pe_listRg rm.calm hg hm (prg_1 hg2 hm2 ha na) nb) fun σ H Q ⟨ρ, O, cs, z, cs', e, en, w, p⟩ => by
    obtain ⟨⟨x, cs1⟩, h1, e1⟩ := Option.bind_eq_some_iff.mp e
    obtain ⟨n, h2, e2⟩ := Option.bind_eq_some_iff.mp e1
    obtain ⟨ok, e3⟩ := ite_some e2
    cases e3
    obtain rfl : x = di n := intOf_some h2
    refine ⟨ρ, O, cs, _, cs1, h1, en, w, fun v1 H1 c1 w1 r1 => ?_⟩
    cases (show Rp X.K (DL.hd O H1) v1 (.int n) from r1)
    exact ⟨n, rfl, rgOk_of ok, post_list w1 (rg_rp 0 n) (p.step c1 w1)⟩
theorem xe_lr2 {a b : Expr} {fa fb : ME} {p pos p2 pos2 : Pos} (rm : Rm X) (hg : Gl X "list") (hm : X.mg "list" = none) (hg2 : Gl X "range") (hm2 : X.mg "range" = none) (ha : XE X fa a) (hb : XE X fb b) (na : starEach [a, b] X.env = (false, eval a X.env) :: starEach [b] X.env := by rfl)
    (nb : starEach [b] X.env = (false, eval b X.env) :: starEach [] X.env := by rfl) (hp : (backTo pos2 (starEach [b] X.env)).any (·.1) = false := by rfl)
    (nc : starEach [.Call (.Name "range" p2) [a, b] [] pos2] X.env = (false, eval (.Call (.Name "range" p2) [a, b] [] pos2) X.env) :: starEach [] X.env := by rfl) : XE X (mLR2 fa fb) (.Call (.Name "list" p) [.Call (.Name "range" p2) [a, b] [] pos2] [] pos) :=
  pe_weak (pe_listRg rm.calm hg hm (prg_2 hg2 hm2 ha hb na nb hp) nc) fun σ H Q ⟨ρ, O, cs, z, cs', e, en, w, p⟩ => by
    obtain ⟨⟨x, cs1⟩, h1, e1⟩ := Option.bind_eq_some_iff.mp e
    obtain ⟨⟨y, cs2⟩, h2, e2⟩ := Option.bind_eq_some_iff.mp e1
    obtain ⟨i, h3, e3⟩ := Option.bind_eq_some_iff.mp e2
    obtain ⟨j, h4, e4⟩ := Option.bind_eq_some_iff.mp e3
    obtain ⟨ok, e5⟩ := ite_some e4
    cases e5
    obtain rfl : x = di i := intOf_some h3
    obtain rfl : y = di j := intOf_some h4
    refine ⟨ρ, O, cs, _, cs1, h1, en, w, fun v1 H1 c1 w1 r1 => ?_⟩
    cases (show Rp X.K (DL.hd O H1) v1 (.int i) from r1)
    refine ⟨ρ, O, cs1, _, cs2, h2, en.ch c1, w1, fun v2 H2 c2 w2 r2 => ?_⟩
    cases (show Rp X.K (DL.hd O H2) v2 (.int j) from r2)
    exact ⟨i, j, rfl, rfl, rgOk_of ok, post_list w2 (rg_rp i j) (p.step (c1.trans c2) w2)⟩
end
end DL
namespace DL
open PySem PySem.Spec PyProof.Rows L2
/-! ### running mirrors: what holds behind -/
def wpo {α β : Type} (o : Option (α × β)) (Q : α → β → Prop) : Prop := match o with
  | some p => Q p.1 p.2
  | none => False
def wpd {α : Type} (o : Option α) (Q : α → Prop) : Prop := match o with
  | some x => Q x
  | none => False
section
variable {α β γ : Type}
@[simp] theorem wpo_some {a : α} {b : β} {Q : α → β → Prop} : wpo (some (a, b)) Q ↔ Q a b := Iff.rfl
@[simp] theorem wpo_none {Q : α → β → Prop} : wpo (none : Option (α × β)) Q ↔ False := Iff.rfl
@[simp] theorem wpd_some {a : α} {Q : α → Prop} : wpd (some a) Q ↔ Q a := Iff.rfl
@[simp] theorem wpd_none {Q : α → Prop} : wpd (none : Option α) Q ↔ False := Iff.rfl
theorem wpo_iff {o : Option (α × β)} {Q : α → β → Prop} : wpo o Q ↔ ∃ a b, o = some (a, b) ∧ Q a b := by
  cases o with
  | none => simp
  | some p =>
    obtain ⟨a, b⟩ := p
    exact ⟨fun h => ⟨a, b, rfl, h⟩, fun ⟨_, _, e, h⟩ => by cases e; exact h⟩
theorem wpd_iff {o : Option α} {Q : α → Prop} : wpd o Q ↔ ∃ a, o = some a ∧ Q a := by
  cases o <;> simp
theorem wpo_of {o : Option (α × β)} {a : α} {b : β} {Q : α → β → Prop} (h : o = some (a, b)) (q : Q a b) : wpo o Q := by rw [h]; exact q
theorem wpo_mono {o : Option (α × β)} {Q R : α → β → Prop} (h : wpo o Q) (i : ∀ a b, Q a b → R a b) : wpo o R := by
  cases o with
  | none => exact h
  | some p => exact i _ _ h
theorem wpd_mono {o : Option α} {Q R : α → Prop} (h : wpd o Q) (i : ∀ a, Q a → R a) : wpd o R := by
  cases o with
  | none => exact h
  | some p => exact i _ h
theorem wpo_bind {γ δ : Type} {o : Option (α × β)} {k : α × β → Option (γ × δ)} {Q : γ → δ → Prop} : wpo (o.bind k) Q ↔ wpo o fun a b => wpo (k (a, b)) Q := by cases o <;> rfl
theorem wpo_map {δ : Type} {o : Option (α × β)} {k : α × β → γ × δ} {Q : γ → δ → Prop} : wpo (o.map k) Q ↔ wpo o fun a b => Q (k (a, b)).1 (k (a, b)).2 := by cases o <;> rfl
theorem wpd_bindo {o : Option α} {k : α → Option (β × γ)} {Q : β → γ → Prop} : wpo (o.bind k) Q ↔ wpd o fun a => wpo (k a) Q := by cases o <;> rfl
theorem wpd_mapo {o : Option α} {k : α → β × γ} {Q : β → γ → Prop} : wpo (o.map k) Q ↔ wpd o fun a => Q (k a).1 (k a).2 := by cases o <;> rfl
theorem wpd_bind {o : Option α} {k : α → Option β} {Q : β → Prop} : wpd (o.bind k) Q ↔ wpd o fun a => wpd (k a) Q := by cases o <;> rfl
theorem wpd_map {o : Option α} {k : α → β} {Q : β → Prop} : wpd (o.map k) Q ↔ wpd o fun a => Q (k a) := by cases o <;> rfl
@[simp] theorem wpd_ite {c : Prop} [Decidable c] {o : Option α} {Q : α → Prop} : wpd (if c then o else none) Q ↔ c ∧ wpd o Q := by
  by_cases h : c <;> simp [h]
@[simp] theorem wpo_ite {c : Prop} [Decidable c] {o : Option (α × β)} {Q : α → β → Prop} : wpo (if c then o else none) Q ↔ c ∧ wpo o Q := by
  by_cases h : c <;> simp [h]
end
def Ev (f : ME) (ρ : Rho) (cs : Cs) (Q : Rv → Cs → Prop) : Prop := wpo (f ρ cs) Q
def Et (f : MT) (ρ : Rho) (cs : Cs) (Q : Bool → Cs → Prop) : Prop := wpo (f ρ cs) Q
def Ea (f : MA) (ρ : Rho) (cs : Cs) (Q : List Rv → Cs → Prop) : Prop := wpo (f ρ cs) Q
def Em (m : MF) (rs : List Rv) (cs : Cs) (Q : Rv → Cs → Prop) : Prop := wpo (m rs cs) Q
def Ei (f : MI) (ρ : Rho) (cs : Cs) (Q : List D → Cs → Prop) : Prop := wpo (f ρ cs) Q
def Eo (f : MO) (ρ : Rho) (cs : Cs) (Q : Option Int → Cs → Prop) : Prop := wpo (f ρ cs) Q
def Eg (g : MG) (d : D) (ρ : Rho) (Q : Rho → Prop) : Prop := wpd (g d ρ) Q
def Egs (g : MGs) (ds : List D) (ρ : Rho) (Q : Rho → Prop) : Prop := wpd (g ds ρ) Q
def Es (f : MS) (n0 : Nat) (ρ : Rho) (cs : Cs) (Q : Out → Prop) : Prop := wpd (f n0 ρ cs) Q
/-- read as data -/
def Rd1 (r : Rv) (cs : Cs) (Q : D → Prop) : Prop := wpd (rd (deg r) cs) Q
def O1 (g : D → Option Rv) (x : Rv) (cs : Cs) (Q : Rv → Cs → Prop) : Prop := Rd1 x cs fun d => wpd (g d) fun z => Q z cs
def O2 (g : D → D → Option Rv) (x y : Rv) (cs : Cs) (Q : Rv → Cs → Prop) : Prop := Rd1 x cs fun d => Rd1 y cs fun e => wpd (g d e) fun z => Q z cs
section
variable {ρ : Rho} {cs : Cs} {Q : Rv → Cs → Prop} {QD : D → Prop} {QT : Bool → Cs → Prop} {QA : List Rv → Cs → Prop} {QI : List D → Cs → Prop} {QO : Option Int → Cs → Prop} {QS : Out → Prop} {QR : Rho → Prop} {n0 : Nat} {fa fb fc : ME} {f g : MS} {m : MF}
@[simp] theorem rd1_dat {d : D} : Rd1 (.dat d) cs QD ↔ QD d := Iff.rfl
@[simp] theorem rd1_fr {d : List D} : Rd1 (.fr d) cs QD ↔ QD (.list d) := Iff.rfl
theorem rd1_own {k : Nat} {c : List D} (h : cs[k]? = some (some c)) : Rd1 (.own k) cs QD ↔ QD (.list c) := by
  unfold Rd1 deg rd
  simp only [h]
  rfl
@[simp] theorem o1_dat {g : D → Option Rv} {d : D} : O1 g (.dat d) cs Q ↔ wpd (g d) fun z => Q z cs := Iff.rfl
@[simp] theorem o1_fr {g : D → Option Rv} {d : List D} : O1 g (.fr d) cs Q ↔ wpd (g (.list d)) fun z => Q z cs := Iff.rfl
@[simp] theorem o2_dd {g : D → D → Option Rv} {d e : D} : O2 g (.dat d) (.dat e) cs Q ↔ wpd (g d e) fun z => Q z cs := Iff.rfl
@[simp] theorem o2_fd {g : D → D → Option Rv} {d : List D} {e : D} : O2 g (.fr d) (.dat e) cs Q ↔ wpd (g (.list d) e) fun z => Q z cs := Iff.rfl
@[simp] theorem o2_df {g : D → D → Option Rv} {d : D} {e : List D} : O2 g (.dat d) (.fr e) cs Q ↔ wpd (g d (.list e)) fun z => Q z cs := Iff.rfl
@[simp] theorem o2_ff {g : D → D → Option Rv} {d : List D} {e : List D} : O2 g (.fr d) (.fr e) cs Q ↔ wpd (g (.list d) (.list e)) fun z => Q z cs := Iff.rfl
theorem o2_od {g : D → D → Option Rv} {k : Nat} {c : List D} {e : D} (h : cs[k]? = some (some c)) : O2 g (.own k) (.dat e) cs Q ↔ wpd (g (.list c) e) fun z => Q z cs := by
  unfold O2
  rw [rd1_own h]
  exact Iff.rfl
theorem o2_do {g : D → D → Option Rv} {k : Nat} {c : List D} {e : D} (h : cs[k]? = some (some c)) : O2 g (.dat e) (.own k) cs Q ↔ wpd (g e (.list c)) fun z => Q z cs := by
  unfold O2
  rw [rd1_dat, rd1_own h]
@[simp] theorem ev_xVar {i : Nat} : Ev (xVar i) ρ cs Q ↔ wpd (ρ[i]?.join) fun r => Q r cs := wpd_mapo
@[simp] theorem ev_xC {d : D} : Ev (xC d) ρ cs Q ↔ Q (.dat d) cs := Iff.rfl
@[simp] theorem ev_mB {h : D → D → Option Rv} : Ev (mB h fa fb) ρ cs Q ↔ Ev fa ρ cs fun x cs1 => Ev fb ρ cs1 fun y cs2 => O2 h x y cs2 Q := by
  unfold Ev mB O2 Rd1
  rw [wpo_bind]
  refine iff_of_eq (congrArg _ (funext fun x => funext fun cs1 => propext ?_))
  rw [wpo_bind]
  refine iff_of_eq (congrArg _ (funext fun y => funext fun cs2 => propext ?_))
  rw [wpd_bindo]
  refine iff_of_eq (congrArg _ (funext fun d => propext ?_))
  rw [wpd_bindo]
  refine iff_of_eq (congrArg _ (funext fun e => propext ?_))
  rw [wpd_mapo]
@[simp] theorem ev_mU {h : D → Option Rv} : Ev (mU h fa) ρ cs Q ↔ Ev fa ρ cs fun x cs1 => O1 h x cs1 Q := by
  unfold Ev mU O1 Rd1
  rw [wpo_bind]
  refine iff_of_eq (congrArg _ (funext fun x => funext fun cs1 => propext ?_))
  rw [wpd_bindo]
  refine iff_of_eq (congrArg _ (funext fun d => propext ?_))
  rw [wpd_mapo]
@[simp] theorem ea_nil : Ea aNil ρ cs QA ↔ QA [] cs := Iff.rfl
@[simp] theorem ea_cons {fr : MA} : Ea (aCons fa fr) ρ cs QA ↔ Ev fa ρ cs fun x cs1 => Ea fr ρ cs1 fun rs cs2 => QA (deg x :: rs) cs2 := by
  unfold Ev Ea aCons
  rw [wpo_bind]
  refine iff_of_eq (congrArg _ (funext fun x => funext fun cs1 => propext ?_))
  rw [wpo_map]
@[simp] theorem deg_dat {d : D} : deg (.dat d) = .dat d := rfl
@[simp] theorem deg_own {k : Nat} : deg (.own k) = .own k := rfl
@[simp] theorem deg_fr {d : List D} : deg (.fr d) = .dat (.list d) := rfl
/-- all read as data -/
def RdA (rs : List Rv) (cs : Cs) (Q : List D → Prop) : Prop := wpd (rdAll rs cs) Q
@[simp] theorem rda_nil {Q : List D → Prop} : RdA [] cs Q ↔ Q [] := Iff.rfl
@[simp] theorem rda_cons {r : Rv} {rs : List Rv} {Q : List D → Prop} : RdA (r :: rs) cs Q ↔ wpd (rd r cs) fun d => RdA rs cs fun ds => Q (d :: ds) := by
  unfold RdA
  rw [show rdAll (r :: rs) cs = (rd r cs).bind fun d => (rdAll rs cs).map fun ds => d :: ds from rfl, wpd_bind]
  refine iff_of_eq (congrArg _ (funext fun d => propext ?_))
  rw [wpd_map]
@[simp] theorem rd_dat {d : D} : rd (.dat d) cs = some d := rfl
@[simp] theorem rd_fr {d : List D} : rd (.fr d) cs = some (.list d) := rfl
theorem rd_own {k : Nat} {c : List D} (h : cs[k]? = some (some c)) : rd (.own k) cs = some (.list c) := by
  unfold rd
  simp only [h]
@[simp] theorem ev_mCall {h : List D → Option Rv} {fr : MA} : Ev (mCall h fr) ρ cs Q ↔ Ea fr ρ cs fun rs cs1 => RdA rs cs1 fun ds => wpd (h ds) fun z => Q z cs1 := by
  unfold Ev Ea mCall RdA
  rw [wpo_bind]
  refine iff_of_eq (congrArg _ (funext fun x => funext fun cs1 => propext ?_))
  rw [wpd_bindo]
  refine iff_of_eq (congrArg _ (funext fun d => propext ?_))
  rw [wpd_mapo]
@[simp] theorem ev_mDisp {h : List D → Rv} {fr : MA} : Ev (mDisp h fr) ρ cs Q ↔ Ea fr ρ cs fun rs cs1 => wpd (datAll rs) fun ds => ds.length ≤ sizeLine ∧ Q (h ds) cs1 := by
  unfold Ev Ea mDisp
  rw [wpo_bind]
  refine iff_of_eq (congrArg _ (funext fun x => funext fun cs1 => propext ?_))
  rw [wpd_bindo]
  refine iff_of_eq (congrArg _ (funext fun d => propext ?_))
  rw [wpo_ite]
  exact Iff.rfl
@[simp] theorem ev_xLst {fr : MA} : Ev (xLst fr) ρ cs Q ↔ Ea fr ρ cs fun rs cs1 => wpd (datAll rs) fun ds => ds.length ≤ sizeLine ∧ Q (.fr ds) cs1 := ev_mDisp
@[simp] theorem ev_xTup {fr : MA} : Ev (xTup fr) ρ cs Q ↔ Ea fr ρ cs fun rs cs1 => wpd (datAll rs) fun ds => ds.length ≤ sizeLine ∧ Q (.dat (.tuple ds)) cs1 := ev_mDisp
@[simp] theorem datAll_nil : datAll [] = some [] := rfl
@[simp] theorem datAll_cons {d : D} {rs : List Rv} : datAll (.dat d :: rs) = (datAll rs).map fun ds => d :: ds := rfl
@[simp] theorem ev_mIf {c : MT} : Ev (mIf c fa fb) ρ cs Q ↔ Et c ρ cs fun b cs1 => if b = true then Ev fa ρ cs1 Q else Ev fb ρ cs1 Q := by
  unfold Ev Et mIf
  rw [wpo_bind]
  refine iff_of_eq (congrArg _ (funext fun b => funext fun cs1 => propext ?_))
  cases b <;> simp
def Tr1 (x : Rv) (cs : Cs) (Q : Bool → Prop) : Prop := Rd1 x cs fun d => wpd (truD d) Q
@[simp] theorem truD_none : truD .none = some false := rfl
@[simp] theorem truD_bool {b : Bool} : truD (.bool b) = some b := rfl
@[simp] theorem truD_int {i : Int} : truD (.int i) = some (i != 0) := rfl
@[simp] theorem truD_str {x : Str} : truD (.str x) = some ((x.length : Int) != 0) := rfl
@[simp] theorem truD_list {ds : List D} : truD (.list ds) = some (!ds.isEmpty) := rfl
@[simp] theorem truD_tuple {ds : List D} : truD (.tuple ds) = some (!ds.isEmpty) := rfl
@[simp] theorem tr1_bool {b : Bool} {Q : Bool → Prop} : Tr1 (.dat (.bool b)) cs Q ↔ Q b := Iff.rfl
@[simp] theorem tr1_dat {d : D} {Q : Bool → Prop} : Tr1 (.dat d) cs Q ↔ wpd (truD d) Q := Iff.rfl
@[simp] theorem tr1_fr {d : List D} {Q : Bool → Prop} : Tr1 (.fr d) cs Q ↔ Q (!d.isEmpty) := Iff.rfl
@[simp] theorem ev_mAnd : Ev (mAnd fa fb) ρ cs Q ↔ Ev fa ρ cs fun x cs1 => Tr1 x cs1 fun k => if k = true then Ev fb ρ cs1 Q else Q (deg x) cs1 := by
  unfold Ev mAnd Tr1 Rd1
  rw [wpo_bind]
  refine iff_of_eq (congrArg _ (funext fun x => funext fun cs1 => propext ?_))
  rw [wpd_bindo]
  refine iff_of_eq (congrArg _ (funext fun d => propext ?_))
  rw [wpd_bindo]
  refine iff_of_eq (congrArg _ (funext fun b => propext ?_))
  cases b <;> simp
@[simp] theorem ev_mOr : Ev (mOr fa fb) ρ cs Q ↔ Ev fa ρ cs fun x cs1 => Tr1 x cs1 fun k => if k = true then Q (deg x) cs1 else Ev fb ρ cs1 Q := by
  unfold Ev mOr Tr1 Rd1
  rw [wpo_bind]
  refine iff_of_eq (congrArg _ (funext fun x => funext fun cs1 => propext ?_))
  rw [wpd_bindo]
  refine iff_of_eq (congrArg _ (funext fun d => propext ?_))
  rw [wpd_bindo]
  refine iff_of_eq (congrArg _ (funext fun b => propext ?_))
  cases b <;> simp
@[simp] theorem ev_mCallF {n : Nat} {fr : MA} : Ev (mCallF n m fr) ρ cs Q ↔ Ea fr ρ cs fun rs cs1 => rs.length = n ∧ Em m rs cs1 Q := by
  unfold Ev Ea Em mCallF
  rw [wpo_bind]
  refine iff_of_eq (congrArg _ (funext fun x => funext fun cs1 => propext ?_))
  exact wpo_ite
@[simp] theorem ev_mCallK {n k q : Nat} {π : List Nat} {fr fk : MA} : Ev (mCallK n k q π m fr fk) ρ cs Q ↔ Ea fr ρ cs fun rs cs1 => Ea fk ρ cs1 fun ks cs2 => (rs.length = n ∧ ks.length = k ∧ (pick π (rs ++ ks)).length = q) ∧ Em m (pick π (rs ++ ks)) cs2 Q := by
  unfold Ev Ea Em mCallK
  rw [wpo_bind]
  refine iff_of_eq (congrArg _ (funext fun x => funext fun cs1 => propext ?_))
  rw [wpo_bind]
  refine iff_of_eq (congrArg _ (funext fun y => funext fun cs2 => propext ?_))
  exact wpo_ite
@[simp] theorem ev_mM1 {h : D → D → Option Rv} : Ev (mM1 h fa fb) ρ cs Q ↔ Ev fa ρ cs fun x cs1 => wpd (match x with | .dat (.str a) => some a | _ => none) fun a => Ev fb ρ cs1 fun y cs2 => O2 h (.dat (.str a)) y cs2 Q := by
  unfold Ev mM1
  rw [wpo_bind]
  refine iff_of_eq (congrArg _ (funext fun x => funext fun cs1 => propext ?_))
  have go : ∀ a : Str, (wpo ((fb ρ cs1).bind fun q => (rd (deg q.1) q.2).bind fun e => (h (.str a) e).map fun z => (z, q.2)) Q ↔ wpo (fb ρ cs1) fun y cs2 => O2 h (.dat (.str a)) y cs2 Q) := fun a => by
    rw [wpo_bind]
    refine iff_of_eq (congrArg _ (funext fun y => funext fun cs2 => propext ?_))
    unfold O2 Rd1
    rw [wpd_bindo]
    show _ ↔ wpd (some (PyData.str a)) _
    rw [wpd_some]
    refine iff_of_eq (congrArg _ (funext fun d => propext ?_))
    rw [wpd_mapo]
  cases x with
  | dat d =>
    cases d with
    | str a => exact go a
    | _ => exact Iff.rfl
  | _ => exact Iff.rfl
@[simp] theorem eo_none : Eo oNone ρ cs QO ↔ QO none cs := Iff.rfl
@[simp] theorem eo_some : Eo (oSome fa) ρ cs QO ↔ Ev fa ρ cs fun x cs1 => wpd (intOf x) fun i => QO (some i) cs1 := by
  unfold Eo Ev oSome
  rw [wpo_bind]
  refine iff_of_eq (congrArg _ (funext fun x => funext fun cs1 => propext ?_))
  rw [wpd_mapo]
@[simp] theorem intOf_dat {i : Int} : intOf (.dat (.int i)) = some i := rfl
@[simp] theorem ev_mSl {lo hi : MO} : Ev (mSl fa lo hi) ρ cs Q ↔ Ev fa ρ cs fun x cs1 => Eo lo ρ cs1 fun l cs2 => Eo hi ρ cs2 fun u cs3 => Rd1 x cs3 fun d => wpd (dSl d l u) fun z => Q z cs3 := by
  unfold Ev Eo Rd1 mSl
  rw [wpo_bind]
  refine iff_of_eq (congrArg _ (funext fun x => funext fun cs1 => propext ?_))
  rw [wpo_bind]
  refine iff_of_eq (congrArg _ (funext fun y => funext fun cs2 => propext ?_))
  rw [wpo_bind]
  refine iff_of_eq (congrArg _ (funext fun z => funext fun cs3 => propext ?_))
  rw [wpd_bindo]
  refine iff_of_eq (congrArg _ (funext fun d => propext ?_))
  rw [wpd_mapo]
@[simp] theorem ev_mChain {p q : Int → Int → Bool} : Ev (mChain p q fa fb fc) ρ cs Q ↔ Ev fa ρ cs fun x cs1 => Ev fb ρ cs1 fun y cs2 => wpd (intOf x) fun i => wpd (intOf y) fun j => if p i j = true then Ev fc ρ cs2 fun z cs3 => wpd (intOf z) fun k => Q (db (q j k)) cs3 else Q (db false) cs2 := by
  unfold Ev mChain
  rw [wpo_bind]
  refine iff_of_eq (congrArg _ (funext fun x => funext fun cs1 => propext ?_))
  rw [wpo_bind]
  refine iff_of_eq (congrArg _ (funext fun y => funext fun cs2 => propext ?_))
  rw [wpd_bindo]
  refine iff_of_eq (congrArg _ (funext fun i => propext ?_))
  rw [wpd_bindo]
  refine iff_of_eq (congrArg _ (funext fun j => propext ?_))
  by_cases h : p i j = true
  · rw [if_pos h, if_pos h, wpo_bind]
    refine iff_of_eq (congrArg _ (funext fun z => funext fun cs3 => propext ?_))
    rw [wpd_bindo]
    exact Iff.rfl
  · rw [if_neg h, if_neg h]
    exact Iff.rfl
@[simp] theorem et_mTB : Et (mTB fa) ρ cs QT ↔ Ev fa ρ cs fun x cs1 => wpd (match x with | .dat (.bool b) => some b | _ => none) fun b => QT b cs1 := by
  unfold Et Ev mTB
  rw [wpo_bind]
  refine iff_of_eq (congrArg _ (funext fun x => funext fun cs1 => propext ?_))
  cases x with
  | dat d => cases d <;> exact Iff.rfl
  | _ => exact Iff.rfl
@[simp] theorem et_mTNot {t : MT} : Et (mTNot t) ρ cs QT ↔ Et t ρ cs fun b cs1 => QT (!b) cs1 := wpo_map
@[simp] theorem et_mTAnd {t u : MT} : Et (mTAnd t u) ρ cs QT ↔ Et t ρ cs fun b cs1 => if b = true then Et u ρ cs1 QT else QT false cs1 := by
  unfold Et mTAnd
  rw [wpo_bind]
  refine iff_of_eq (congrArg _ (funext fun b => funext fun cs1 => propext ?_))
  cases b <;> simp
@[simp] theorem et_mTOr {t u : MT} : Et (mTOr t u) ρ cs QT ↔ Et t ρ cs fun b cs1 => if b = true then QT true cs1 else Et u ρ cs1 QT := by
  unfold Et mTOr
  rw [wpo_bind]
  refine iff_of_eq (congrArg _ (funext fun b => funext fun cs1 => propext ?_))
  cases b <;> simp
@[simp] theorem et_mTru : Et (mTru fa) ρ cs QT ↔ Ev fa ρ cs fun x cs1 => Tr1 x cs1 fun b => QT b cs1 := by
  unfold Et Ev mTru Tr1 Rd1
  rw [wpo_bind]
  refine iff_of_eq (congrArg _ (funext fun x => funext fun cs1 => propext ?_))
  rw [wpd_bindo]
  refine iff_of_eq (congrArg _ (funext fun d => propext ?_))
  rw [wpd_mapo]
@[simp] theorem et_mYes : Et mYes ρ cs QT ↔ QT true cs := Iff.rfl
@[simp] theorem eg_gNm {i : Nat} {d : D} : Eg (gNm i) d ρ QR ↔ QR (ρ.set i (some (.dat d))) := Iff.rfl
@[simp] theorem eg_gTp {n : Nat} {h : MGs} {ds : List D} : Eg (gTp n h) (.tuple ds) ρ QR ↔ ds.length = n ∧ Egs h ds ρ QR := wpd_ite
@[simp] theorem egs_nil : Egs gsNil [] ρ QR ↔ QR ρ := Iff.rfl
@[simp] theorem egs_cons {h : MG} {hs : MGs} {d : D} {ds : List D} : Egs (gsCons h hs) (d :: ds) ρ QR ↔ Eg h d ρ fun ρ1 => Egs hs ds ρ1 QR := wpd_bind
@[simp] theorem es_sNil : Es sNil n0 ρ cs QS ↔ QS (.nx ρ cs) := Iff.rfl
@[simp] theorem es_sBrk : Es sBrk n0 ρ cs QS ↔ QS (.bk ρ cs) := Iff.rfl
@[simp] theorem es_sCnt : Es sCnt n0 ρ cs QS ↔ QS (.ct ρ cs) := Iff.rfl
@[simp] theorem es_sNev : Es sNev n0 ρ cs QS ↔ False := Iff.rfl
@[simp] theorem es_sRetN : Es sRetN n0 ρ cs QS ↔ QS (.rt (.dat .none) cs) := Iff.rfl
/-- go on behind -/
def Nx (n0 : Nat) (g : MS) (Q : Out → Prop) : Out → Prop
  | .nx ρ cs => Es g n0 ρ cs Q
  | o => Q o
@[simp] theorem nx_nx : Nx n0 g QS (.nx ρ cs) ↔ Es g n0 ρ cs QS := Iff.rfl
@[simp] theorem nx_rt {r : Rv} : Nx n0 g QS (.rt r cs) ↔ QS (.rt r cs) := Iff.rfl
@[simp] theorem nx_bk : Nx n0 g QS (.bk ρ cs) ↔ QS (.bk ρ cs) := Iff.rfl
@[simp] theorem nx_ct : Nx n0 g QS (.ct ρ cs) ↔ QS (.ct ρ cs) := Iff.rfl
@[simp] theorem es_sSeq : Es (sSeq f g) n0 ρ cs QS ↔ Es f n0 ρ cs (Nx n0 g QS) := by
  unfold Es sSeq
  rw [wpd_bind]
  refine iff_of_eq (congrArg _ (funext fun o => propext ?_))
  cases o <;> exact Iff.rfl
theorem wpo_bindd {α β γ : Type} {o : Option (α × β)} {k : α × β → Option γ} {Q : γ → Prop} : wpd (o.bind k) Q ↔ wpo o fun a b => wpd (k (a, b)) Q := by cases o <;> rfl
theorem wpo_mapd {α β γ : Type} {o : Option (α × β)} {k : α × β → γ} {Q : γ → Prop} : wpd (o.map k) Q ↔ wpo o fun a b => Q (k (a, b)) := by cases o <;> rfl
@[simp] theorem es_sExpr : Es (sExpr fa) n0 ρ cs QS ↔ Ev fa ρ cs fun _ cs1 => QS (.nx ρ cs1) := wpo_mapd
def DatOf (r : Rv) (Q : D → Prop) : Prop := wpd (match deg r with | .dat d => some d | _ => none) Q
@[simp] theorem datOf_dat {d : D} : DatOf (.dat d) QD ↔ QD d := Iff.rfl
@[simp] theorem datOf_fr {d : List D} : DatOf (.fr d) QD ↔ QD (.list d) := Iff.rfl
@[simp] theorem es_sSet {i : Nat} : Es (sSet i fa) n0 ρ cs QS ↔ Ev fa ρ cs fun x cs1 => DatOf x fun d => QS (.nx (ρ.set i (some (.dat d))) cs1) := by
  unfold Es Ev sSet DatOf
  rw [wpo_bindd]
  refine iff_of_eq (congrArg _ (funext fun x => funext fun cs1 => propext ?_))
  cases x <;> exact Iff.rfl
@[simp] theorem es_sOwn {i : Nat} : Es (sOwn i fa) n0 ρ cs QS ↔ Ev fa ρ cs fun x cs1 => wpd (match x with | .fr c => some c | _ => none) fun c => QS (.nx (ρ.set i (some (.own cs1.length))) (cs1 ++ [some c])) := by
  unfold Es Ev sOwn
  rw [wpo_bindd]
  refine iff_of_eq (congrArg _ (funext fun x => funext fun cs1 => propext ?_))
  cases x <;> exact Iff.rfl
@[simp] theorem es_sIf {c : MT} : Es (sIf c f g) n0 ρ cs QS ↔ Et c ρ cs fun b cs1 => if b = true then Es f n0 ρ cs1 QS else Es g n0 ρ cs1 QS := by
  unfold Es Et sIf
  rw [wpo_bindd]
  refine iff_of_eq (congrArg _ (funext fun b => funext fun cs1 => propext ?_))
  cases b <;> simp
/-- what a return hands out -/
def Ret (n0 : Nat) (r : Rv) (cs : Cs) (Q : Out → Prop) : Prop := match r with
  | .dat d => Q (.rt (.dat d) cs)
  | .fr c => Q (.rt (.own cs.length) (cs ++ [some c]))
  | .own k => n0 ≤ k ∧ Q (.rt (.own k) cs)
  | .exn _ _ => False
@[simp] theorem ret_dat {d : D} : Ret n0 (.dat d) cs QS ↔ QS (.rt (.dat d) cs) := Iff.rfl
@[simp] theorem ret_fr {c : List D} : Ret n0 (.fr c) cs QS ↔ QS (.rt (.own cs.length) (cs ++ [some c])) := Iff.rfl
@[simp] theorem ret_own {k : Nat} : Ret n0 (.own k) cs QS ↔ n0 ≤ k ∧ QS (.rt (.own k) cs) := Iff.rfl
@[simp] theorem es_sRet : Es (sRet fa) n0 ρ cs QS ↔ Ev fa ρ cs fun x cs1 => Ret n0 x cs1 QS := by
  unfold Es Ev sRet
  rw [wpo_bindd]
  refine iff_of_eq (congrArg _ (funext fun x => funext fun cs1 => propext ?_))
  cases x with
  | own k => exact wpd_ite
  | _ => exact Iff.rfl
/-- a def's result from its body's -/
def Fin (n : Nat) (Q : Rv → Cs → Prop) : Out → Prop
  | .rt (.dat d) cs' => Q (.dat d) (cs'.take n)
  | .rt (.own k) cs' => n ≤ k ∧ wpd cs'[k]?.join fun c => Q (.fr c) (cs'.take n)
  | .nx _ cs' => Q (.dat .none) (cs'.take n)
  | _ => False
@[simp] theorem fin_dat {n : Nat} {d : D} : Fin n Q (.rt (.dat d) cs) ↔ Q (.dat d) (cs.take n) := Iff.rfl
@[simp] theorem fin_own {n k : Nat} : Fin n Q (.rt (.own k) cs) ↔ n ≤ k ∧ wpd cs[k]?.join fun c => Q (.fr c) (cs.take n) := Iff.rfl
@[simp] theorem fin_nx {n : Nat} : Fin n Q (.nx ρ cs) ↔ Q (.dat .none) (cs.take n) := Iff.rfl
theorem em_fnM {n : Nat} {b : MS} {rs : List Rv} : Em (fnM n b) rs cs Q ↔ Es b cs.length (rs.map some ++ List.replicate (n - rs.length) none) cs (Fin cs.length Q) := by
  unfold Em Es fnM
  rw [wpd_bindo]
  refine iff_of_eq (congrArg _ (funext fun o => propext ?_))
  cases o with
  | rt r cs' =>
    cases r with
    | dat d => exact Iff.rfl
    | fr c => exact Iff.rfl
    | exn nm d => exact Iff.rfl
    | own k =>
      show wpo (if cs.length ≤ k then _ else none) Q ↔ cs.length ≤ k ∧ wpd cs'[k]?.join _
      rw [wpo_ite]
      refine and_congr_right fun _ => ?_
      cases cs'[k]? with
      | none => exact Iff.rfl
      | some x => cases x <;> exact Iff.rfl
  | nx ρ cs' => exact Iff.rfl
  | bk _ _ => exact Iff.rfl
  | ct _ _ => exact Iff.rfl
theorem em_rec {n i : Nat} {b : MF → MS} {rs : List Rv} : Em (recM n b (i + 1)) rs cs Q ↔ Em (fnM n (b (recM n b i))) rs cs Q := Iff.rfl
@[simp] theorem es_sPut {x : Nat} : Es (sPut x fb fa) n0 ρ cs QS ↔ Ev fa ρ cs fun v cs1 => wpd (cellOf ρ[x]?) fun k => Ev fb ρ cs1 fun j cs2 => wpd (intOf j) fun i => DatOf v fun d => wpd cs2[k]?.join fun c => wpd (ixN c.length i) fun j => QS (.nx ρ (cs2.set k (some (c.set j d)))) := by
  unfold Es Ev sPut DatOf
  rw [wpo_bindd]
  refine iff_of_eq (congrArg _ (funext fun v => funext fun cs1 => propext ?_))
  rw [wpd_bind]
  refine iff_of_eq (congrArg _ (funext fun k => propext ?_))
  rw [wpo_bindd]
  refine iff_of_eq (congrArg _ (funext fun j => funext fun cs2 => propext ?_))
  rw [wpd_bind]
  refine iff_of_eq (congrArg _ (funext fun i => propext ?_))
  dsimp only
  cases deg v with
  | dat d =>
    cases cs2[k]? with
    | none => exact Iff.rfl
    | some c =>
      cases c with
      | none => exact Iff.rfl
      | some c => exact wpd_map
  | _ => exact Iff.rfl
@[simp] theorem cellOf_own {k : Nat} : cellOf (some (some (.own k))) = some k := rfl
@[simp] theorem es_sApp {x : Nat} : Es (sApp x fa) n0 ρ cs QS ↔ wpd (cellOf ρ[x]?) fun k => Ev fa ρ cs fun v cs1 => DatOf v fun d => wpd cs1[k]?.join fun c => c.length < sizeLine ∧ QS (.nx ρ (cs1.set k (some (c ++ [d])))) := by
  unfold Es Ev sApp DatOf
  rw [wpd_bind]
  refine iff_of_eq (congrArg _ (funext fun k => propext ?_))
  rw [wpo_bindd]
  refine iff_of_eq (congrArg _ (funext fun v => funext fun cs1 => propext ?_))
  dsimp only
  cases deg v with
  | dat d =>
    cases cs1[k]? with
    | none => exact Iff.rfl
    | some c =>
      cases c with
      | none => exact Iff.rfl
      | some c => exact wpd_ite
  | _ => exact Iff.rfl
@[simp] theorem es_sAsg {h : MG} : Es (sAsg fa h) n0 ρ cs QS ↔ Ev fa ρ cs fun x cs1 => DatOf x fun d => Eg h d ρ fun ρ1 => QS (.nx ρ1 cs1) := by
  unfold Es Ev sAsg DatOf Eg
  rw [wpo_bindd]
  refine iff_of_eq (congrArg _ (funext fun x => funext fun cs1 => propext ?_))
  cases x with
  | own k => exact Iff.rfl
  | exn nm d => exact Iff.rfl
  | _ => exact wpd_map
@[simp] theorem ei_iSeq : Ei (iSeq fa) ρ cs QI ↔ Ev fa ρ cs fun x cs1 => DatOf x fun d => wpd (itemsOf d) fun ds => QI ds cs1 := by
  unfold Ei Ev iSeq DatOf
  rw [wpo_bind]
  refine iff_of_eq (congrArg _ (funext fun x => funext fun cs1 => propext ?_))
  cases x with
  | own k => exact Iff.rfl
  | exn nm d => exact Iff.rfl
  | _ => exact wpd_mapo
@[simp] theorem itemsOf_list {ds : List D} : itemsOf (.list ds) = some ds := rfl
@[simp] theorem itemsOf_tuple {ds : List D} : itemsOf (.tuple ds) = some ds := rfl
@[simp] theorem itemsOf_str {x : Str} : itemsOf (.str x) = some (x.cps.toList.map fun c => .str ⟨#[c]⟩) := rfl
@[simp] theorem ei_rg1 {fr : MA} : Ei (iRg1 fr) ρ cs QI ↔ Ea fr ρ cs fun rs cs1 => wpd (match intsOf rs with | some [j] => some j | _ => none) fun j => sm62 j ∧ QI (rngD 0 j.toNat) cs1 := by
  unfold Ei Ea iRg1
  rw [wpo_bind]
  refine iff_of_eq (congrArg _ (funext fun x => funext fun cs1 => propext ?_))
  dsimp only
  generalize intsOf x = o
  match o with
  | none => exact Iff.rfl
  | some [] => exact Iff.rfl
  | some [j] => exact wpo_ite
  | some (_ :: _ :: _) => exact Iff.rfl
@[simp] theorem ei_rg2 {fr : MA} : Ei (iRg2 fr) ρ cs QI ↔ Ea fr ρ cs fun rs cs1 => wpd (match intsOf rs with | some [i, j] => some (i, j) | _ => none) fun p => (sm62 p.1 ∧ sm62 p.2) ∧ QI (rngD p.1 (p.2 - p.1).toNat) cs1 := by
  unfold Ei Ea iRg2
  rw [wpo_bind]
  refine iff_of_eq (congrArg _ (funext fun x => funext fun cs1 => propext ?_))
  dsimp only
  generalize intsOf x = o
  match o with
  | none => exact Iff.rfl
  | some [] => exact Iff.rfl
  | some [_] => exact Iff.rfl
  | some [i, j] => exact wpo_ite
  | some (_ :: _ :: _ :: _) => exact Iff.rfl
@[simp] theorem intsOf_nil : intsOf [] = some [] := rfl
@[simp] theorem intsOf_cons {i : Int} {rs : List Rv} : intsOf (.dat (.int i) :: rs) = (intsOf rs).map fun is => i :: is := rfl
def zipR (rs : List Rv) : Option (List D) := match rs with
  | [.dat (.list xs), .dat (.list ys)] => some (zipD xs ys)
  | [.dat (.tuple xs), .dat (.tuple ys)] => some (zipD xs ys)
  | _ => none
@[simp] theorem zipR_l {xs ys : List D} : zipR [.dat (.list xs), .dat (.list ys)] = some (zipD xs ys) := rfl
@[simp] theorem zipR_t {xs ys : List D} : zipR [.dat (.tuple xs), .dat (.tuple ys)] = some (zipD xs ys) := rfl
theorem iZp_eq {fr : MA} : iZp fr = fun ρ cs => (fr ρ cs).bind fun p => (zipR p.1).map fun ds => (ds, p.2) := by
  funext ρ cs
  unfold iZp
  refine congrArg _ (funext fun p => ?_)
  obtain ⟨rs, cs1⟩ := p
  unfold zipR
  dsimp only
  split
  · rfl
  · rfl
  · rename_i h1 h2
    first
      | rfl
      | (split
         · exact (h1 _ _ rfl).elim
         · exact (h2 _ _ rfl).elim
         · rfl)
@[simp] theorem ei_zip {fr : MA} : Ei (iZp fr) ρ cs QI ↔ Ea fr ρ cs fun rs cs1 => wpd (zipR rs) fun ds => QI ds cs1 := by
  unfold Ei Ea
  rw [iZp_eq, wpo_bind]
  refine iff_of_eq (congrArg _ (funext fun x => funext fun cs1 => propext ?_))
  exact wpd_mapo
@[simp] theorem ei_en {fr : MA} : Ei (iEn fr) ρ cs QI ↔ Ea fr ρ cs fun rs cs1 => wpd (match rs with | [r] => lstOf r | _ => none) fun ds => QI (enumD 0 ds) cs1 := by
  unfold Ei Ea iEn
  rw [wpo_bind]
  refine iff_of_eq (congrArg _ (funext fun x => funext fun cs1 => propext ?_))
  match x with
  | [] => exact Iff.rfl
  | [r] => exact wpd_mapo
  | _ :: _ :: _ => exact Iff.rfl
@[simp] theorem lstOf_dat {ds : List D} : lstOf (.dat (.list ds)) = some ds := rfl
@[simp] theorem ea_dat {fr : MA} : Ea (aDat fa fr) ρ cs QA ↔ Ev fa ρ cs fun x cs1 => DatOf x fun d => Ea fr ρ cs1 fun rs cs2 => QA (.dat d :: rs) cs2 := by
  unfold Ev Ea aDat DatOf
  rw [wpo_bind]
  refine iff_of_eq (congrArg _ (funext fun x => funext fun cs1 => propext ?_))
  cases x with
  | own k => exact Iff.rfl
  | exn nm d => exact Iff.rfl
  | _ => exact wpo_map
/-- a fresh list -/
def frOf (r : Rv) : Option (List D) := match r with
  | .fr c => some c
  | _ => none
@[simp] theorem frOf_fr {c : List D} : frOf (.fr c) = some c := rfl
@[simp] theorem ea_own {fr : MA} : Ea (aOwn fa fr) ρ cs QA ↔ Ev fa ρ cs fun x cs1 => wpd (frOf x) fun c => Ea fr ρ (cs1 ++ [some c]) fun rs cs2 => QA (.own cs1.length :: rs) cs2 := by
  unfold Ev Ea aOwn
  rw [wpo_bind]
  refine iff_of_eq (congrArg _ (funext fun x => funext fun cs1 => propext ?_))
  cases x with
  | fr c => exact wpo_map
  | _ => exact Iff.rfl
def two (rs : List Rv) : Option (Rv × Rv) := match rs with
  | [r, t] => some (r, t)
  | _ => none
@[simp] theorem two_ok {r t : Rv} : two [r, t] = some (r, t) := rfl
def three (rs : List Rv) : Option (Rv × Rv × Rv) := match rs with
  | [r, t, u] => some (r, t, u)
  | _ => none
@[simp] theorem three_ok {r t u : Rv} : three [r, t, u] = some (r, t, u) := rfl
@[simp] theorem es_sParO {i j : Nat} {fr : MA} : Es (sParO i j fr) n0 ρ cs QS ↔ Ea fr ρ cs fun rs cs1 => wpd (two rs) fun p => QS (.nx ((ρ.set i (some p.1)).set j (some p.2)) cs1) := by
  unfold Es Ea sParO
  rw [wpo_bindd]
  refine iff_of_eq (congrArg _ (funext fun x => funext fun cs1 => propext ?_))
  match x with
  | [] => exact Iff.rfl
  | [_] => exact Iff.rfl
  | [_, _] => exact Iff.rfl
  | _ :: _ :: _ :: _ => exact Iff.rfl
@[simp] theorem es_sPar3 {i j l : Nat} {fr : MA} : Es (sPar3 i j l fr) n0 ρ cs QS ↔ Ea fr ρ cs fun rs cs1 => wpd (three rs) fun p => QS (.nx (((ρ.set i (some p.1)).set j (some p.2.1)).set l (some p.2.2)) cs1) := by
  unfold Es Ea sPar3
  rw [wpo_bindd]
  refine iff_of_eq (congrArg _ (funext fun x => funext fun cs1 => propext ?_))
  match x with
  | [] => exact Iff.rfl
  | [_] => exact Iff.rfl
  | [_, _] => exact Iff.rfl
  | [_, _, _] => exact Iff.rfl
  | _ :: _ :: _ :: _ :: _ => exact Iff.rfl
@[simp] theorem ev_mLR1 : Ev (mLR1 fa) ρ cs Q ↔ Ev fa ρ cs fun x cs1 => wpd (intOf x) fun n => rgOkB 0 n = true ∧ Q (.fr (rngD 0 (n - 0).toNat)) cs1 := by
  unfold Ev mLR1
  rw [wpo_bind]
  refine iff_of_eq (congrArg _ (funext fun x => funext fun cs1 => propext ?_))
  rw [wpd_bindo]
  refine iff_of_eq (congrArg _ (funext fun n => propext ?_))
  exact wpo_ite
@[simp] theorem ev_mLR2 : Ev (mLR2 fa fb) ρ cs Q ↔ Ev fa ρ cs fun x cs1 => Ev fb ρ cs1 fun y cs2 => wpd (intOf x) fun a => wpd (intOf y) fun b => rgOkB a b = true ∧ Q (.fr (rngD a (b - a).toNat)) cs2 := by
  unfold Ev mLR2
  rw [wpo_bind]
  refine iff_of_eq (congrArg _ (funext fun x => funext fun cs1 => propext ?_))
  rw [wpo_bind]
  refine iff_of_eq (congrArg _ (funext fun y => funext fun cs2 => propext ?_))
  rw [wpd_bindo]
  refine iff_of_eq (congrArg _ (funext fun n => propext ?_))
  rw [wpd_bindo]
  refine iff_of_eq (congrArg _ (funext fun m => propext ?_))
  exact wpo_ite
/-! while: by a measure, I holds ahead of each test -/
theorem wh_rule {c : MT} {b : MS} (I : Rho → Cs → Prop) (μ : Rho → Cs → Nat) (hs : ∀ ρ cs, I ρ cs → Et c ρ cs fun k cs1 => if k = true then Es b n0 ρ cs1 fun o => match o with
    | .nx ρ2 cs2 => I ρ2 cs2 ∧ μ ρ2 cs2 < μ ρ cs
    | .ct ρ2 cs2 => I ρ2 cs2 ∧ μ ρ2 cs2 < μ ρ cs
    | .bk ρ2 cs2 => QS (.nx ρ2 cs2)
    | .rt r cs2 => QS (.rt r cs2) else QS (.nx ρ cs1)) : ∀ (n : Nat) (ρ : Rho) (cs : Cs), μ ρ cs < n → I ρ cs → wpd (wh c b n0 n ρ cs) QS
  | 0, _, _, h, _ => absurd h (Nat.not_lt_zero _)
  | n + 1, ρ, cs, h, hI => by
    rw [show wh c b n0 (n + 1) ρ cs = (c ρ cs).bind fun p => if p.1 = true then (b n0 ρ p.2).bind fun o => match o with
      | .nx ρ2 cs2 => wh c b n0 n ρ2 cs2
      | .ct ρ2 cs2 => wh c b n0 n ρ2 cs2
      | .bk ρ2 cs2 => some (.nx ρ2 cs2)
      | .rt r cs2 => some (.rt r cs2)
    else some (.nx ρ p.2) from rfl, wpo_bindd]
    refine wpo_mono (hs ρ cs hI) fun k cs1 hk => ?_
    cases k with
    | false => exact hk
    | true =>
      rw [if_pos rfl] at hk
      show wpd (if true = true then _ else _) QS
      rw [if_pos rfl, wpd_bind]
      refine wpd_mono hk fun o ho => ?_
      cases o with
      | nx ρ2 cs2 => exact wh_rule I μ hs n ρ2 cs2 (by have := ho.2; omega) ho.1
      | ct ρ2 cs2 => exact wh_rule I μ hs n ρ2 cs2 (by have := ho.2; omega) ho.1
      | bk ρ2 cs2 => exact ho
      | rt r cs2 => exact ho
theorem es_sWh {c : MT} {b : MS} (I : Rho → Cs → Prop) (μ : Rho → Cs → Nat) (h0 : I ρ cs) (hs : ∀ ρ cs, I ρ cs → Et c ρ cs fun k cs1 => if k = true then Es b n0 ρ cs1 fun o => match o with
    | .nx ρ2 cs2 => I ρ2 cs2 ∧ μ ρ2 cs2 < μ ρ cs
    | .ct ρ2 cs2 => I ρ2 cs2 ∧ μ ρ2 cs2 < μ ρ cs
    | .bk ρ2 cs2 => QS (.nx ρ2 cs2)
    | .rt r cs2 => QS (.rt r cs2) else QS (.nx ρ cs1)) : Es (sWh c b) n0 ρ cs QS := by
  obtain ⟨o, e, q⟩ := wpd_iff.mp (wh_rule I μ hs (μ ρ cs + 1) ρ cs (Nat.lt_succ_self _) h0)
  exact wpd_iff.mpr ⟨o, sWh_of e, q⟩
/-! loops -/
def El (h : MG) (b : MS) (n0 : Nat) (ds : List D) (ρ : Rho) (cs : Cs) (Q : Out → Prop) : Prop := wpd (loopM h b n0 ds ρ cs) Q
@[simp] theorem es_sFor {i : MI} {h : MG} {b : MS} : Es (sFor i h b) n0 ρ cs QS ↔ Ei i ρ cs fun ds cs1 => El h b n0 ds ρ cs1 QS := wpo_bindd
@[simp] theorem el_nil {h : MG} {b : MS} : El h b n0 [] ρ cs QS ↔ QS (.nx ρ cs) := Iff.rfl
def Lp (h : MG) (b : MS) (n0 : Nat) (ds : List D) (Q : Out → Prop) : Out → Prop
  | .nx ρ cs => El h b n0 ds ρ cs Q
  | .ct ρ cs => El h b n0 ds ρ cs Q
  | .bk ρ cs => Q (.nx ρ cs)
  | .rt r cs => Q (.rt r cs)
theorem el_cons {h : MG} {b : MS} {d : D} {ds : List D} : El h b n0 (d :: ds) ρ cs QS ↔ Eg h d ρ fun ρ1 => Es b n0 ρ1 cs (Lp h b n0 ds QS) := by
  unfold El Eg Es
  rw [show loopM h b n0 (d :: ds) ρ cs = (h d ρ).bind fun ρ1 => (b n0 ρ1 cs).bind fun o => match o with
    | .nx ρ2 cs2 => loopM h b n0 ds ρ2 cs2
    | .ct ρ2 cs2 => loopM h b n0 ds ρ2 cs2
    | .bk ρ2 cs2 => some (.nx ρ2 cs2)
    | .rt r cs2 => some (.rt r cs2) from rfl, wpd_bind]
  refine iff_of_eq (congrArg _ (funext fun ρ1 => propext ?_))
  rw [wpd_bind]
  refine iff_of_eq (congrArg _ (funext fun o => propext ?_))
  cases o <;> exact Iff.rfl
theorem el_inv {h : MG} {b : MS} (I : Nat → Rho → Cs → Prop) : ∀ {ds : List D} {k : Nat} {ρ : Rho} {cs : Cs}, I k ρ cs → (∀ (i : Nat) (d : D) (ρ : Rho) (cs : Cs), ds[i]? = some d → I (k + i) ρ cs → Eg h d ρ fun ρ1 => Es b n0 ρ1 cs fun o => match o with
    | .nx ρ2 cs2 => I (k + i + 1) ρ2 cs2
    | .ct ρ2 cs2 => I (k + i + 1) ρ2 cs2
    | .bk ρ2 cs2 => QS (.nx ρ2 cs2)
    | .rt r cs2 => QS (.rt r cs2)) → (∀ ρ cs, I (k + ds.length) ρ cs → QS (.nx ρ cs)) → El h b n0 ds ρ cs QS
  | [], k, ρ, cs, h0, _, h2 => h2 ρ cs h0
  | d :: ds, k, ρ, cs, h0, h1, h2 => by
    rw [el_cons]
    refine wpd_mono (h1 0 d ρ cs rfl h0) fun ρ1 e1 => wpd_mono e1 fun o e2 => ?_
    have go : ∀ ρ2 cs2, I (k + 1) ρ2 cs2 → El h b n0 ds ρ2 cs2 QS := fun ρ2 cs2 i2 => el_inv I (k := k + 1) i2 (fun i d' ρ cs hi hI => by
      have := h1 (i + 1) d' ρ cs (by simpa using hi) (by rw [show k + (i + 1) = k + 1 + i by omega]; exact hI)
      rw [show k + (i + 1) = k + 1 + i by omega] at this
      exact this) fun ρ cs hI => h2 ρ cs (by rw [List.length_cons, show k + (ds.length + 1) = k + 1 + ds.length by omega]; exact hI)
    cases o with
    | nx ρ2 cs2 => exact go ρ2 cs2 e2
    | ct ρ2 cs2 => exact go ρ2 cs2 e2
    | bk ρ2 cs2 => exact e2
    | rt r cs2 => exact e2
/-! comprehensions -/
def Ec (h : MG) (t : MT) (f : ME) (ds : List D) (ρ : Rho) (cs : Cs) (acc : List D) (Q : List D → Cs → Prop) : Prop := wpo (compM h t f ds ρ cs acc) Q
@[simp] theorem ev_xComp {i : MI} {h : MG} {t : MT} {vs : List Nat} : Ev (xComp i h t fa vs) ρ cs Q ↔ Ei i ρ cs fun ds cs1 => Ec h t fa ds (wipeR ρ vs) cs1 [] fun l cs2 => Q (.fr l) cs2 := by
  unfold Ev Ei Ec xComp
  rw [wpo_bind]
  refine iff_of_eq (congrArg _ (funext fun x => funext fun cs1 => propext ?_))
  exact wpo_map
@[simp] theorem ec_nil {h : MG} {t : MT} {acc : List D} {Q : List D → Cs → Prop} : Ec h t fa [] ρ cs acc Q ↔ Q acc cs := Iff.rfl
/-- one turn of a comprehension, the new list's cell last -/
theorem ec_cons {h : MG} {t : MT} {d : D} {ds acc : List D} {Q : List D → Cs → Prop} (e : Eg h d ρ fun ρ1 => Et t ρ1 (cs ++ [some acc]) fun b cs2 => if b = true then Ev fa ρ1 cs2 fun r cs3 => DatOf r fun x => ∃ cs4 c, cs3 = cs4 ++ [some c] ∧ cs4.length = cs.length ∧ c.length < sizeLine ∧ Ec h t fa ds ρ cs4 (c ++ [x]) Q
    else ∃ cs4 c, cs2 = cs4 ++ [some c] ∧ cs4.length = cs.length ∧ Ec h t fa ds ρ cs4 c Q) : Ec h t fa (d :: ds) ρ cs acc Q := by
  unfold Ec
  rw [show compM h t fa (d :: ds) ρ cs acc = (h d ρ).bind fun ρ1 => (t ρ1 (cs ++ [some acc])).bind fun p => if p.1 = true then (fa ρ1 p.2).bind fun q => match deg q.1, q.2[cs.length]? with
      | .dat e, some (some c) => if c.length < sizeLine then compM h t fa ds ρ (q.2.take cs.length) (c ++ [e]) else none
      | _, _ => none
    else match p.2[cs.length]? with
      | some (some c) => compM h t fa ds ρ (p.2.take cs.length) c
      | _ => none from rfl, wpd_bindo]
  refine wpd_mono e fun ρ1 e1 => ?_
  rw [wpo_bind]
  refine wpo_mono e1 fun b cs2 e2 => ?_
  cases b with
  | true =>
    rw [if_pos rfl] at e2
    show wpo (if true = true then _ else _) _
    rw [if_pos rfl, wpo_bind]
    refine wpo_mono e2 fun r cs3 e3 => ?_
    obtain ⟨x, ex, cs4, c, rfl, hl, hz, e4⟩ := wpd_iff.mp e3
    have er : deg r = .dat x := by
      cases q : deg r with
      | dat d => rw [q] at ex; exact congrArg Rv.dat (Option.some.inj ex)
      | own k => rw [q] at ex; cases ex
      | fr c => rw [q] at ex; cases ex
      | exn nm d => rw [q] at ex; cases ex
    have e5 : (cs4 ++ [some c])[cs.length]? = some (some c) := by rw [← hl]; simp
    have e6 : (cs4 ++ [some c]).take cs.length = cs4 := by rw [← hl]; simp
    dsimp only
    rw [er, e5]
    dsimp only
    rw [if_pos hz, e6]
    exact e4
  | false =>
    have e2' : ∃ cs4 c, cs2 = cs4 ++ [some c] ∧ cs4.length = cs.length ∧ Ec h t fa ds ρ cs4 c Q := e2
    obtain ⟨cs4, c, rfl, hl, e4⟩ := e2'
    have e5 : (cs4 ++ [some c])[cs.length]? = some (some c) := by rw [← hl]; simp
    have e6 : (cs4 ++ [some c]).take cs.length = cs4 := by rw [← hl]; simp
    dsimp only
    rw [if_neg (by decide), e5]
    dsimp only
    rw [e6]
    exact e4
/-- a comprehension that changes no cell: filter and map -/
theorem ec_pure {h : MG} {t : MT} (P : D → Bool) (F : D → D) {Q : List D → Cs → Prop} : ∀ {ds acc : List D}, (∀ d ∈ ds, ∀ cs', Eg h d ρ fun ρ1 => Et t ρ1 cs' fun b cs2 => b = P d ∧ cs2 = cs' ∧ (P d = true → Ev fa ρ1 cs' fun r cs3 => cs3 = cs' ∧ DatOf r fun x => x = F d)) → acc.length + ds.length ≤ sizeLine → Q (acc ++ (ds.filter P).map F) cs → Ec h t fa ds ρ cs acc Q
  | [], acc, _, _, q => by simpa using q
  | d :: ds, acc, hd, hz, q => by
    refine ec_cons (wpd_mono (hd d (List.mem_cons_self ..) (cs ++ [some acc])) fun ρ1 e1 => wpo_mono e1 fun b cs2 e2 => ?_)
    obtain ⟨rfl, rfl, e3⟩ := e2
    rw [List.length_cons] at hz
    have hd' := fun d' h' => hd d' (List.mem_cons_of_mem _ h')
    by_cases hp : P d = true
    · rw [if_pos hp]
      refine wpo_mono (e3 hp) fun r cs3 e4 => ?_
      obtain ⟨rfl, e5⟩ := e4
      refine wpd_mono e5 fun x ex => ?_
      subst ex
      refine ⟨cs, acc, rfl, rfl, by omega, ec_pure P F hd' (by rw [List.length_append]; simp; omega) ?_⟩
      rw [List.filter_cons_of_pos hp, List.map_cons] at q
      rw [List.append_assoc]
      exact q
    · rw [if_neg hp]
      refine ⟨cs, acc, rfl, rfl, ec_pure P F hd' (by omega) ?_⟩
      rw [List.filter_cons_of_neg hp] at q
      exact q
/-- a comprehension by an invariant: I turn, the list so far, the cells without it -/
theorem ec_inv {h : MG} {t : MT} (I : Nat → List D → Cs → Prop) {Q : List D → Cs → Prop} : ∀ {ds : List D} {k : Nat} {acc : List D} {cs : Cs}, I k acc cs → (∀ (i : Nat) (d : D) (acc : List D) (cs : Cs), ds[i]? = some d → I (k + i) acc cs → Eg h d ρ fun ρ1 => Et t ρ1 (cs ++ [some acc]) fun b cs2 => if b = true then Ev fa ρ1 cs2 fun r cs3 => DatOf r fun x => ∃ cs4 c, cs3 = cs4 ++ [some c] ∧ cs4.length = cs.length ∧ c.length < sizeLine ∧ I (k + i + 1) (c ++ [x]) cs4
    else ∃ cs4 c, cs2 = cs4 ++ [some c] ∧ cs4.length = cs.length ∧ I (k + i + 1) c cs4) → (∀ acc cs, I (k + ds.length) acc cs → Q acc cs) → Ec h t fa ds ρ cs acc Q
  | [], k, acc, cs, h0, _, h2 => h2 acc cs h0
  | d :: ds, k, acc, cs, h0, h1, h2 => by
    have go : ∀ c cs4, I (k + 1) c cs4 → Ec h t fa ds ρ cs4 c Q := fun c cs4 i2 => ec_inv I (k := k + 1) i2 (fun i d' acc cs hi hI => by
      have := h1 (i + 1) d' acc cs (by simpa using hi) (by rw [show k + (i + 1) = k + 1 + i by omega]; exact hI)
      rw [show k + (i + 1) = k + 1 + i by omega] at this
      exact this) fun acc cs hI => h2 acc cs (by rw [List.length_cons, show k + (ds.length + 1) = k + 1 + ds.length by omega]; exact hI)
    refine ec_cons (wpd_mono (h1 0 d acc cs rfl h0) fun ρ1 e1 => wpo_mono e1 fun b cs2 e2 => ?_)
    by_cases hb : b = true
    · rw [if_pos hb] at e2 ⊢
      refine wpo_mono e2 fun r cs3 e3 => wpd_mono e3 fun x e4 => ?_
      obtain ⟨cs4, c, a1, a2, a3, a4⟩ := e4
      exact ⟨cs4, c, a1, a2, a3, go _ _ a4⟩
    · rw [if_neg hb] at e2 ⊢
      obtain ⟨cs4, c, a1, a2, a4⟩ := e2
      exact ⟨cs4, c, a1, a2, go _ _ a4⟩
end
end DL
/-! EX3: what is asked of a caught exception: isinstance, its value. -/
namespace DL
open PySem PySem.Spec PyProof.Rows L2
section
variable {X : Cx}
/-- the module's class nm, at C -/
structure ClsOf (K : PySem.W.Frag) (mg : Str → Option Value) (nm : Str) (C : Addr) : Prop where
  g : mg nm = some (.ref C)
  mem : (nm, C) ∈ CLs K
  no : ∀ T ∈ (["NoneType", "bool", "int", "str", "list", "tuple", "dict", "function"] : List String), PySem.W.kitOne K (.type T) (.ref C) = some false
theorem ClsOf.nod {K : PySem.W.Frag} {mg : Str → Option Value} {nm : Str} {C : Addr} (h : ClsOf K mg nm C) (d : D) : PySem.W.kitOne K (.type (tyN d)) (.ref C) = some false := by
  refine h.no _ ?_
  cases d with
  | dict kvs =>
    show (if isFn kvs = true then "function" else "dict") ∈ _
    split <;> simp
  | _ => simp [tyN]
/-- isinstance(e, nm), nm a class of the module -/
def mIsX (nm : Str) (fa : ME) : ME := fun ρ cs => (fa ρ cs).bind fun p => match p.1 with
  | .exn n _ => some (db (subN n nm), p.2)
  | r => (rd (deg r) p.2).map fun _ => (db false, p.2)
theorem call_isX : CallR X (.builtin "isinstance") (fun xs H Q => rIsF X.K xs H Q ∨ rIsK X.K xs H Q) := by
  intro pins s σ H xs us Q I r h
  rcases h with h | h
  · exact call_isF pins s σ H xs us Q I r h
  · exact call_isK pins s σ H xs us Q I r h
theorem xe_isX {C : Addr} {e : Expr} {x : Str} {f : ME} {p pt pos : Pos} (hg : Gl X "isinstance") (hm : X.mg "isinstance" = none) (hx : Gl X x) (hc : ClsOf X.K X.mg x C) (he : XE X f e) (hd : (x == ("__debug__" : Str)) = false := by decide)
    (h1 : starEach [e, .Name x pt] X.env = (false, eval e X.env) :: starEach [.Name x pt] X.env := by rfl) (hpl : (backTo pos (starEach [.Name x pt] X.env)).any (·.1) = false := by rfl) :
    XE X (mIsX x f) (.Call (.Name "isinstance" p) [e, .Name x pt] [] pos) :=
  pe_weak (pe_callB call_isX hg hm (by decide +kernel) (pa_cons he (pa_cons (pe_glob hx hc.g (v := .ref C) rfl hd) pa_nil) h1) (he := h1) (hpl := hpl)) fun σ H Q ⟨ρ, O, cs, z, cs', e0, en, w, p⟩ => by
    obtain ⟨⟨r, cs1⟩, g1, g3⟩ := Option.bind_eq_some_iff.mp e0
    refine ⟨ρ, O, cs, r, cs1, g1, en, w, fun v1 H1 c1 w1 r1 => ?_⟩
    cases r with
    | exn n d =>
      cases g3
      obtain ⟨a, C', dd, y, rfl, k, q1, q2, q3⟩ := r1
      exact .inr ⟨a, C', dd, _, .ref C, .ref C, _, rfl, k.ke, hd_le _ _ q1, hd_le _ _ q2, fun u ru => ru, k.sub _ hc.mem, post_bool w1 (p.step c1 w1)⟩
    | dat d =>
      obtain ⟨d', g4, g5⟩ := Option.map_eq_some_iff.mp (show (rd (deg (.dat d)) cs1).map (fun _ => (db false, cs1)) = some (z, cs') from g3)
      cases g5
      exact .inl ⟨v1, .ref C, _, _, false, rfl, .own C, tyX_of (r1.deg.sh w1 g4), hc.nod _, post_bool w1 (p.step c1 w1)⟩
    | own k =>
      obtain ⟨d', g4, g5⟩ := Option.map_eq_some_iff.mp (show (rd (deg (.own k)) cs1).map (fun _ => (db false, cs1)) = some (z, cs') from g3)
      cases g5
      exact .inl ⟨v1, .ref C, _, _, false, rfl, .own C, tyX_of (r1.deg.sh w1 g4), hc.nod _, post_bool w1 (p.step c1 w1)⟩
    | fr c =>
      obtain ⟨d', g4, g5⟩ := Option.map_eq_some_iff.mp (show (rd (deg (.fr c)) cs1).map (fun _ => (db false, cs1)) = some (z, cs') from g3)
      cases g5
      exact .inl ⟨v1, .ref C, _, _, false, rfl, .own C, tyX_of (r1.deg.sh w1 g4), hc.nod _, post_bool w1 (p.step c1 w1)⟩
/-- e.value -/
def mVal (fa : ME) : ME := fun ρ cs => (fa ρ cs).bind fun p => match p.1 with
  | .exn _ d => some (.dat d, p.2)
  | _ => none
theorem xe_val {e : Expr} {f : ME} {pos : Pos} (he : XE X f e) (hb : attributeBase e "value" X.env (eval e X.env) = eval e X.env := by rfl) : XE X (mVal f) (.Attribute e "value" pos) :=
  pe_weak (pe_xk (f := "value") he hb) fun σ H Q ⟨ρ, O, cs, z, cs', e0, en, w, p⟩ => by
    obtain ⟨⟨r, cs1⟩, g1, g3⟩ := Option.bind_eq_some_iff.mp e0
    refine ⟨ρ, O, cs, r, cs1, g1, en, w, fun v1 H1 c1 w1 r1 => ?_⟩
    cases r with
    | exn n d =>
      cases g3
      obtain ⟨a, C', dd, y, rfl, k, q1, q2, q3⟩ := r1
      exact ⟨a, C', dd, _, y, rfl, k.ke, k.nov, hd_le _ _ q1, hd_le _ _ q2, by simp [List.lookup], p y H1 c1 w1 q3⟩
    | _ => cases g3
/-- x is None, x is not None: x anything -/
def rIsN (f : Bool → Bool) : R2 := fun x y H Q => y = .non ∧ Q (.bl (f (decide (x = .non)))) H
theorem op_isN : OpR X (compareOp .Is) (rIsN id) := by
  intro pins s σ H x y v u Q I rx ry h
  obtain ⟨rfl, q⟩ := h
  cases (show u = .none from ry)
  exact is_none_gen ⟨.bl _, H, I, by rw [rx.none_iff]; rfl, q⟩
theorem op_isnN : OpR X (compareOp .IsNot) (rIsN not) := by
  intro pins s σ H x y v u Q I rx ry h
  obtain ⟨rfl, q⟩ := h
  cases (show u = .none from ry)
  exact isnot_none_gen ⟨.bl _, H, I, by rw [rx.none_iff]; rfl, q⟩
def mIsN (f : Bool → Bool) (fa : ME) : ME := fun ρ cs => (fa ρ cs).bind fun p => match p.1 with
  | .exn _ _ => some (db (f false), p.2)
  | r => (rd (deg r) p.2).map fun d => (db (f (isNonD d)), p.2)
theorem non_of {K : PySem.W.Frag} {O : List (Option Addr)} {H : Hp} {v : V} {d : D} (h : Sh K O H v d) : decide (v = .non) = isNonD d := by
  cases d with
  | none => cases h.none; rfl
  | bool b => cases h.bool; rfl
  | int i => cases h.int; rfl
  | str x => obtain ⟨rfl, _⟩ := h.str; rfl
  | list ds => obtain ⟨a, vs, rfl, _⟩ := h.list; rfl
  | tuple ds => obtain ⟨a, vs, rfl, _⟩ := h.tuple; rfl
  | dict ds =>
    by_cases hf : isFn ds = true
    · rcases h with h | ⟨a, vs, ds', rfl, e, h1, h2⟩
      · cases h with
        | dct q e r => rfl
        | fn q => rfl
      · cases e
    · obtain ⟨a, vs, rfl, _⟩ := h.dict (by simpa using hf)
      rfl
theorem isN_of {f : Bool → Bool} {fa : ME} {σ : L2.St} {H : Hp} {Q : VK} (h : tX X.K (mIsN f fa) σ H Q) : tX X.K fa σ H fun x H1 => rIsN f x .non H1 Q := by
  obtain ⟨ρ, O, cs, z, cs', e0, en, w, p⟩ := h
  obtain ⟨⟨r, cs1⟩, g1, g3⟩ := Option.bind_eq_some_iff.mp e0
  refine ⟨ρ, O, cs, r, cs1, g1, en, w, fun v1 H1 c1 w1 r1 => ⟨rfl, ?_⟩⟩
  cases r with
  | exn n d =>
    cases g3
    obtain ⟨a, C', dd, y, rfl, _⟩ := r1
    exact post_bool w1 (p.step c1 w1)
  | dat d =>
    obtain ⟨d', g4, g5⟩ := Option.map_eq_some_iff.mp (show (rd (deg (.dat d)) cs1).map _ = some (z, cs') from g3)
    cases g5
    rw [non_of (r1.deg.sh w1 g4)]
    exact post_bool w1 (p.step c1 w1)
  | own k =>
    obtain ⟨d', g4, g5⟩ := Option.map_eq_some_iff.mp (show (rd (deg (.own k)) cs1).map _ = some (z, cs') from g3)
    cases g5
    rw [non_of (r1.deg.sh w1 g4)]
    exact post_bool w1 (p.step c1 w1)
  | fr c =>
    obtain ⟨d', g4, g5⟩ := Option.map_eq_some_iff.mp (show (rd (deg (.fr c)) cs1).map _ = some (z, cs') from g3)
    cases g5
    rw [non_of (r1.deg.sh w1 g4)]
    exact post_bool w1 (p.step c1 w1)
theorem xe_isN {a : Expr} {fa : ME} {j : Nat} {pos pos' : Pos} (ha : XE X fa a) : XE X (mIsN id fa) (.Compare a [.Is] [.Constant .none j pos'] pos) :=
  pe_weak (pe_cmpR op_isN ha pe_non (by rfl)) fun σ H Q h => isN_of h
theorem xe_isnN {a : Expr} {fa : ME} {j : Nat} {pos pos' : Pos} (ha : XE X fa a) : XE X (mIsN not fa) (.Compare a [.IsNot] [.Constant .none j pos'] pos) :=
  pe_weak (pe_cmpR op_isnN ha pe_non (by rfl)) fun σ H Q h => isN_of h
theorem xt_isN {a : Expr} {fa : ME} {j : Nat} {pos pos' : Pos} (ha : XE X fa a) : XT X (mTB (mIsN id fa)) (.Compare a [.Is] [.Constant .none j pos'] pos) :=
  pt_weak (pt_cmpR op_isN ha pe_non (by rfl)) (tTest_of fun σ H Q h => isN_of h)
theorem xt_isnN {a : Expr} {fa : ME} {j : Nat} {pos pos' : Pos} (ha : XE X fa a) : XT X (mTB (mIsN not fa)) (.Compare a [.IsNot] [.Constant .none j pos'] pos) :=
  pt_weak (pt_cmpR op_isnN ha pe_non (by rfl)) (tTest_of fun σ H Q h => isN_of h)
/-- a module's constant that is data: at every heap -/
structure GVal (K : PySem.W.Frag) (mg : Str → Option Value) (x : Str) (d : D) : Prop where
  at_ : ∃ a : Addr, mg x = some (.ref a) ∧ ∀ H, Rp K H (.ref a) d
theorem xe_gval {x : Str} {d : D} {pos : Pos} (hg : Gl X x) (g : GVal X.K X.mg x d) (hd : (x == ("__debug__" : Str)) = false := by decide) : XE X (xC d) (.Name x pos) := by
  obtain ⟨a, h1, h2⟩ := g.at_
  refine pe_weak (pe_glob hg h1 (v := .ref a) rfl hd) fun σ H Q ⟨ρ, O, cs, r', cs', e, en, w, p⟩ => ?_
  cases e
  exact p (.ref a) H .refl w (h2 _)
end
end DL
/-! EX4: bodies that may raise: a layer over the plain statements. -/
namespace DL
open PySem PySem.Spec PyProof.Rows L2
/-- how a raising body ends: an exception (its class's name, its value), or as plain ones -/
inductive XOu where
  | ex (nm : Str) (d : D) (ρ : Rho) (cs : Cs)
  | out (o : Out)
abbrev MX := Nat → Rho → Cs → Option XOu
/-- an exception in the air: of class cls, its dict d -/
def ExF (K : PySem.W.Frag) (H : Hp) (nm : Str) (d : D) (cls : Value) (dd : Option Addr) : Prop := ∃ (C a : Addr) (y : V), cls = .ref C ∧ dd = some a ∧ Card K nm C ∧ H a = some (.xd [(("value" : Str), y)]) ∧ Rp K H y d
def PostX' (K : PySem.W.Frag) (n0 : Nat) (O : List (Option Addr)) (H : Hp) (x : XOu) (W : WX) (D : Ends) : Prop :=
  match x with
  | .ex nm d ρ' cs' => ∀ cls dd σ' O' H', Ext n0 O O' H → Ch O H H' → EnvOk K O' H' ρ' σ' → Wd K O' cs' H' → ExF K (hd O' H') nm d cls dd → W cls dd σ' H'
  | .out o => PostS K n0 O H o D
def tSX (K : PySem.W.Frag) (f : MX) (W : WX) : TS := fun D σ H => ∃ n0 ρ O cs x, f n0 ρ cs = some x ∧ n0 ≤ O.length ∧ EnvOk K O H ρ σ ∧ Wd K O cs H ∧ PostX' K n0 O H x W D
def XSX (X : Cx) (f : MX) (b : List Stmt) : Prop := ∀ W, Takes X W → PSs X b (tSX X.K f W)
section
variable {X : Cx}
/-- plain statements at the end -/
def xTail (g : MS) : MX := fun n0 ρ cs => (g n0 ρ cs).map .out
theorem xsx_tail {g : MS} {b : List Stmt} (h : XSs X.nox g b) : XSX X (xTail g) b := fun W tk => by
  have h' : PSs X b (tS X.K g) := PSs.nox h
  refine pss_weak h' fun D σ H ⟨n0, ρ, O, cs, x, e0, hn, en, w, p⟩ => ?_
  obtain ⟨o, e1, rfl⟩ := Option.map_eq_some_iff.mp e0
  exact ⟨n0, ρ, O, cs, o, e1, hn, en, w, p⟩
theorem PostX'.step {K : PySem.W.Frag} {n0 : Nat} {O O1 : List (Option Addr)} {H H1 : Hp} {x : XOu} {W : WX} {D : Ends} {cs cs1 : Cs} (h : PostX' K n0 O H x W D) (w : Wd K O cs H) (w1 : Wd K O1 cs1 H1) (e : Ext n0 O O1 H) (c : Ch O H H1) : PostX' K n0 O1 H1 x W D := by
  cases x with
  | ex nm d ρ' cs' => exact fun cls dd σ' O' H' e' c' en' w' => h cls dd σ' O' H' (e.trans w w1 c e') (c.ext e c') en' w'
  | out o => exact PostS.step (show PostS K n0 O H o D from h) w w1 e c
/-- a plain statement, then the rest -/
def xSeq (f : MS) (g : MX) : MX := fun n0 ρ cs => (f n0 ρ cs).bind fun o => match o with
  | .nx ρ1 cs1 => g n0 ρ1 cs1
  | o => some (.out o)
theorem ps_nox {st : Stmt} {t : TS} (h : PS X.nox st t) : PS X st t := ⟨fun pins s σ H D I hw =>
  wpAny_mono (h.run pins s σ H D (I.wish _) hw) (fun _ _ q => q.unwish) fun _ _ z => False.elim z⟩
theorem xsx_cons {st : Stmt} {rest : List Stmt} {f : MS} {g : MX} (h1 : XS X.nox f st) (h2 : XSX X g rest) : XSX X (xSeq f g) (st :: rest) := fun W tk => by
  have h1' : PS X st (tS X.K f) := ps_nox h1
  refine pss_weak (pss_cons h1' (h2 W tk)) fun D σ H ⟨n0, ρ, O, cs, x, e0, hn, en, w, p⟩ => ?_
  obtain ⟨o, e1, e2⟩ := Option.bind_eq_some_iff.mp e0
  refine ⟨n0, ρ, O, cs, o, e1, hn, en, w, ?_⟩
  cases o with
  | nx ρ1 cs1 =>
    intro σ1 O1 H1 ex1 c1 en1 w1
    exact ⟨n0, ρ1, O1, cs1, x, e2, ex1.len hn, en1, w1, p.step w w1 ex1 c1⟩
  | rt r cs1 =>
    cases e2
    exact p
  | bk ρ1 cs1 =>
    cases e2
    exact p
  | ct ρ1 cs1 =>
    cases e2
    exact p
/-- a statement that may raise -/
def X1 (X : Cx) (f : MX) (st : Stmt) : Prop := ∀ W, Takes X W → PS X st (tSX X.K f W)
def xOut (f : MS) : MX := fun n0 ρ cs => (f n0 ρ cs).map .out
theorem x1_plain {st : Stmt} {f : MS} (h : XS X.nox f st) : X1 X (xOut f) st := fun W tk => by
  have h' : PS X st (tS X.K f) := ps_nox h
  refine ps_weak h' fun D σ H ⟨n0, ρ, O, cs, x, e0, hn, en, w, p⟩ => ?_
  obtain ⟨o, e1, rfl⟩ := Option.map_eq_some_iff.mp e0
  exact ⟨n0, ρ, O, cs, o, e1, hn, en, w, p⟩
def xSq (f g : MX) : MX := fun n0 ρ cs => (f n0 ρ cs).bind fun x => match x with
  | .out (.nx ρ1 cs1) => g n0 ρ1 cs1
  | x => some x
theorem xsx_sq {st : Stmt} {rest : List Stmt} {f g : MX} (h1 : X1 X f st) (h2 : XSX X g rest) : XSX X (xSq f g) (st :: rest) := fun W tk => by
  refine pss_weak (pss_cons (h1 W tk) (h2 W tk)) fun D σ H ⟨n0, ρ, O, cs, x, e0, hn, en, w, p⟩ => ?_
  obtain ⟨y, e1, e2⟩ := Option.bind_eq_some_iff.mp e0
  refine ⟨n0, ρ, O, cs, y, e1, hn, en, w, ?_⟩
  cases y with
  | ex nm d ρ1 cs1 =>
    cases e2
    exact p
  | out o =>
    cases o with
    | nx ρ1 cs1 =>
      intro σ1 O1 H1 ex1 c1 en1 w1
      exact ⟨n0, ρ1, O1, cs1, x, e2, ex1.len hn, en1, w1, p.step w w1 ex1 c1⟩
    | rt r cs1 =>
      cases e2
      exact p
    | bk ρ1 cs1 =>
      cases e2
      exact p
    | ct ρ1 cs1 =>
      cases e2
      exact p
theorem xsx_one {st : Stmt} {f : MX} (h1 : X1 X f st) : XSX X f [st] := fun W tk => pss_one (h1 W tk)
def xNil : MX := fun _ ρ cs => some (.out (.nx ρ cs))
theorem xsx_nil : XSX X xNil [] := fun W tk => pss_weak pss_nil fun D σ H ⟨n0, ρ, O, cs, out, e, hn, en, w, p⟩ => by
  cases e
  exact p σ O H .refl .refl en w
def xIf (c : MT) (f g : MX) : MX := fun n0 ρ cs => (c ρ cs).bind fun p => if p.1 = true then f n0 ρ p.2 else g n0 ρ p.2
theorem x1_if {c : Expr} {a b : List Stmt} {t : MT} {f g : MX} {pos : Pos} (hc : XT X.nox t c) (ha : XSX X f a) (hb : XSX X g b) : X1 X (xIf t f g) (.If c a b pos) := fun W tk => by
  have hc' : PT X c (tXT X.K t) := PT.nox hc
  refine ps_weak (ps_if hc' (ha W tk) (hb W tk)) fun D σ H ⟨n0, ρ, O, cs, x, e0, hn, en, w, p⟩ => ?_
  obtain ⟨⟨k, cs1⟩, h1, h2⟩ := Option.bind_eq_some_iff.mp e0
  refine ⟨ρ, O, cs, k, cs1, h1, en, w, fun H' c' w' => ?_⟩
  have p' := p.step w w' .refl c'
  cases k with
  | true => exact ⟨n0, ρ, O, cs1, x, h2, hn, en.ch c', w', p'⟩
  | false => exact ⟨n0, ρ, O, cs1, x, h2, hn, en.ch c', w', p'⟩
/-- raise nm(e) -/
def xRaise (nm : Str) (fe : ME) : MX := fun _ ρ cs => (fe ρ cs).bind fun p => match deg p.1 with
  | .dat d => some (.ex nm d ρ p.2)
  | _ => none
/-- the class nm, which may be raised, at C -/
structure RaC (P : Program) (K : PySem.W.Frag) (mg : Str → Option Value) (nm : Str) : Prop where
  ex : ∃ (C D fI : Addr) (qual : Str), SEX.SeTxt P K qual D fI ∧ SEX.SeCls K D fI C ∧ mg nm = some (.ref C) ∧ mg "super" = none ∧ Card K nm C
theorem x1_raise {nm : Str} {a : Expr} {fe : ME} {p pos pos2 : Pos} {k : Nat} (R : RaC X.prog X.K X.mg nm) (hc : X.calm = true) (hr : Room k X.A) (ha : XE X.nox fe a) (hg : Gl X nm)
    (hdb : (nm == ("__debug__" : Str)) = false := by decide) (he : starEach (a :: []) X.env = (false, eval a X.env) :: starEach [] X.env := by rfl) (hpl : (backTo pos (starEach [] X.env)).any (·.1) = false := by rfl) :
    X1 X (xRaise nm fe) (.Raise (some (.Call (.Name nm p) [a] [] pos)) none pos2) := fun W tk => by
  obtain ⟨C, D, fI, qual, T, TC, gC, hms, cd⟩ := R.ex
  have ha' : PE X a (tX X.K fe) := PE.nox ha
  refine ps_weak (ps_raise hc tk (pmk_se T TC gC hms hr (pa_cons ha' pa_nil he) hg hdb he hpl)) fun D' σ H ⟨n0, ρ, O, cs, x, e0, hn, en, w, p⟩ => ?_
  obtain ⟨⟨r, cs1⟩, h1, h2⟩ := Option.bind_eq_some_iff.mp e0
  refine ⟨ρ, O, cs, r, cs1, h1, en, w, fun v1 H1 c1 w1 r1 => ⟨v1, rfl, fun d hd => ?_⟩⟩
  have rr := r1.deg
  dsimp only at h2
  split at h2
  · rename_i y hy
    cases h2
    rw [hy] at rr
    have c2 : Ch O H1 (upd H1 d (.xd [(("value" : Str), v1)])) := ch_new hd
    exact p (.ref C) (some d) σ O _ .refl (c1.trans c2) (en.ch (c1.trans c2)) (w1.new hd) ⟨C, d, v1, rfl, rfl, cd, hd_of (w1.fresh hd) upd_same, Rp.mono c2.data rr⟩
  · cases h2
end
/-! ### defs that may raise -/
/-- what a call of such a def gives -/
inductive RX where
  | ex (nm : Str) (d : D) (cs : Cs)
  | ok (r : Rv) (cs : Cs)
abbrev MFX := List Rv → Cs → Option RX
def finM (n : Nat) (o : Out) : Option (Rv × Cs) := match o with
  | .rt (.dat d) cs' => some (.dat d, cs'.take n)
  | .rt (.own k) cs' => if n ≤ k then (match cs'[k]? with
    | some (some c) => some (.fr c, cs'.take n)
    | _ => none) else none
  | .nx _ cs' => some (.dat .none, cs'.take n)
  | _ => none
def finX (n : Nat) (x : XOu) : Option RX := match x with
  | .ex nm d _ cs' => some (.ex nm d (cs'.take n))
  | .out o => (finM n o).map fun p => .ok p.1 p.2
def fnX (n : Nat) (b : MX) : MFX := fun rs cs => (b cs.length (rs.map some ++ List.replicate (n - rs.length) none) cs).bind (finX cs.length)
theorem ExF.mono {K : PySem.W.Frag} {H H' : Hp} (h : ∀ a o, H a = some o → H' a = some o) {nm : Str} {d : D} {cls : Value} {dd : Option Addr} (q : ExF K H nm d cls dd) : ExF K H' nm d cls dd :=
  let ⟨C, a, y, e1, e2, k, h1, r⟩ := q
  ⟨C, a, y, e1, e2, k, h _ _ h1, r.mono h⟩
/-- what the caller is told -/
def PostR (K : PySem.W.Frag) (O : List (Option Addr)) (H : Hp) (x : RX) (Q : VK) (E : L2.XK) : Prop := match x with
  | .ex nm d cs' => ∀ cls dd H', Ch O H H' → Wd K O cs' H' → ExF K (hd O H') nm d cls dd → E cls dd H'
  | .ok r cs' => PostX K O H r cs' Q
theorem post_fin {K : PySem.W.Frag} {O : List (Option Addr)} {cs cs' : Cs} {H : Hp} {o : Out} {r : Rv} {Q : VK} (wd : Wd K O cs H) (h2 : finM cs.length o = some (r, cs')) (p : PostX K O H r cs' Q) : PostS K cs.length O H o { nx := fun _ H' => Q .non H', rt := Q } := by
  cases o with
  | rt r0 cs1 =>
    intro v O' H' ex c w' ar'
    cases r0 with
    | dat d =>
      cases h2
      obtain ⟨a1, a2⟩ := body_end (r := .dat d) wd ex c w' ar' (.inl ⟨d, rfl, rfl⟩)
      exact p v H' c a1 a2
    | own j =>
      have h3 : (if cs.length ≤ j then (match cs1[j]? with
        | some (some c) => some (Rv.fr c, cs1.take cs.length)
        | _ => none) else none) = some (r, cs') := h2
      by_cases hj : cs.length ≤ j
      · rw [if_pos hj] at h3
        split at h3
        · rename_i l hl'
          cases h3
          obtain ⟨a1, a2⟩ := body_end (r := .fr l) wd ex c w' ar' (.inr ⟨j, l, rfl, hj, hl', rfl⟩)
          exact p v H' c a1 a2
        · cases h3
      · rw [if_neg hj] at h3; cases h3
    | fr l => cases h2
    | exn nm d => cases h2
  | nx ρ1 cs1 =>
    cases h2
    intro σ' O' H' ex c en' w'
    obtain ⟨a1, a2⟩ := body_end (r0 := .dat .none) (r := .dat .none) (v := .non) wd ex c w' .non (.inl ⟨_, rfl, rfl⟩)
    exact p .non H' c a1 a2
  | bk _ _ => cases h2
  | ct _ _ => cases h2
theorem post_finX {K : PySem.W.Frag} {O : List (Option Addr)} {cs : Cs} {H : Hp} {y : XOu} {x : RX} {Q : VK} {E : L2.XK} (wd : Wd K O cs H) (h2 : finX cs.length y = some x) (p : PostR K O H x Q E) : PostX' K cs.length O H y (fun cls d _ H => E cls d H) { nx := fun _ H' => Q .non H', rt := Q } := by
  cases y with
  | out o =>
    obtain ⟨q, h3, rfl⟩ := Option.map_eq_some_iff.mp h2
    exact post_fin wd h3 p
  | ex nm d ρ' cs1 =>
    cases h2
    intro cls dd σ' O' H' ex c en' w' hx
    have eO : O'.take cs.length = O := ex.take_eq wd.len
    have w2 := w'.take cs.length
    rw [eO] at w2
    exact p cls dd H' c w2 (hx.mono fun a o q => by
      obtain ⟨m, e⟩ := hd_some q
      exact hd_of (fun z => m (live_take (n := cs.length) (by rw [eO]; exact z))) e)
section
end
/-- the def at f does as m says, an exception told to the caller -/
structure FnX (P : Program) (w : World) (K : PySem.W.Frag) (mg : Str → Option Value) (base : Heap) (k : Nat) (f : Addr) (fd : FuncData) (ps : List Str) (m : MFX) : Prop where
  run : ∀ (A : Around) (outer : List Env) (s : Shared) (H : Hp) (args : Args) (us : List Value) (vs : List V) (Q : VK) (E : L2.XK) (rs : List Rv) (O : List (Option Addr)) (cs : Cs) (x : RX),
    A.guards = some [] → base.NoDigits → Room k A → Env0 P w K mg base A outer s H → BindsTo s fd args (ps.zip us) → Vals vs us → vs.length = ps.length → Wd K O cs H → ArRs K O H rs vs → m rs cs = some x → PostR K O H x Q E →
    codeAny (model P w) A (.call (.ref f) args) (CR (L2.CX P w) outer P w H s Q E) s
abbrev cxX (P : Program) (w : World) (K : PySem.W.Frag) (mg : Str → Option Value) (base : Heap) (N : List Str) (qual : Str) (scope : Scope) (f : Addr) (cdv : Value) (A : Around) (outer : List Env) (s : Shared) (H : Hp) (E : L2.XK) : Cx :=
  cxOf (L2.CX P w) P w K mg base N qual scope f cdv A outer s H E
theorem fnX_of {P : Program} {w : World} {K : PySem.W.Frag} {mg : Str → Option Value} {base : Heap} {k : Nat} {f : Addr} {x qual : Str} {params : Arguments} {body : List Stmt} {scope : Scope} {dvs : List V} {kws : List (Str × V)} {fd : FuncData} {N ps : List Str} {b : MX}
    (F : FunD K x qual params body scope dvs kws f fd) (S : FnScope N ps scope)
    (hb : ∀ (cdv : Value) (A : Around) (outer : List Env) (s : Shared) (H : Hp) (E : L2.XK), Room k (A.deeper (envOfC qual scope s.heap.objs.size f cdv)) → Rm (cxX P w K mg base N qual scope f cdv A outer s H E).nox → (cxX P w K mg base N qual scope f cdv A outer s H E).calm = true → XSX (cxX P w K mg base N qual scope f cdv A outer s H E) b body) :
    FnX P w K mg base (k + 1) f fd ps (fnX N.length b) := by
  obtain ⟨oc, od, dV, kV, doc, pm, an, cdv, ct, osl, rfl, lk, hcd, _, _⟩ := F.ex
  refine ⟨fun A outer s H args us vs Q E rs O cs x hg hnd hr e0 hbd rv hl wd ar em p => ?_⟩
  have KX : K.In s.heap := e0.mod.kin.keeps fun a o e => (e0.bs a o e).1
  have lim : s.heap.NoLimit := e0.mod.nolimit.keeps fun a o e => (e0.bs a o e).1
  refine codeAny_call_function hr.depth (KX _ _ lk) rfl S.co S.gen rfl (PySem.W.codeRec_of KX hcd) (hbd _ _ _ _ ?_)
  refine wpAny_newFunctionEnv_cells S.kind (fun y hy => ?_) fun env he s1 xx => ?_
  · rcases S.par y.1 (List.of_mem_zip hy).1 with q | q
    · exact .inl q
    · exact .inr ⟨q, PySem.W.cellsFrom_some _ _ _ (.inl q)⟩
  · subst he
    refine ⟨lim.keeps xx.toInCall.keep, codeAny_func ?_⟩
    have I := inv_start (CX := L2.CX P w) (E := E) (qual := qual) (f := f) (cd := cdv) (outer := outer) S hr.hd e0 hl rv xx
    have hr' := hr.deeper (envOfC qual scope s.heap.objs.size f cdv)
    have rm : Rm (cxX P w K mg base N qual scope f cdv A outer s H E).nox := ⟨hr.hd, by
      have := hr'.un
      show (A.deeper (envOfC qual scope s.heap.objs.size f cdv)).units + 200 < cLine
      omega, by show A.guards = some []; exact hg, rfl, hnd⟩
    have hbody := hb cdv A outer s H E hr' rm rfl _ (takes_of (E := E) rfl rfl rfl rfl)
    obtain ⟨o, h1, h2⟩ := Option.bind_eq_some_iff.mp em
    refine wpAny_mono (hbody.run [] s1 (L2.start N vs) H { nx := fun _ H' => Q .non H', rt := Q } I ⟨cs.length, _, O, cs, o, h1, by rw [wd.len]; exact Nat.le_refl _, start_env ar, wd, post_finX wd h2 p⟩) (fun fl s' hs => ?_) fun e s' hs => hs
    cases fl with
    | ret u =>
      obtain ⟨v, σ', H', J, rv', q⟩ := hs
      exact ⟨v, H', J.os, J.bare, J.base, J.hok, rv', q⟩
    | next =>
      obtain ⟨σ', H', J, q⟩ := hs
      exact ⟨V.non, H', J.os, J.bare, J.base, J.hok, rfl, q⟩
    | brk =>
      obtain ⟨_, _, _, q⟩ := hs
      exact q.elim
    | cont =>
      obtain ⟨_, _, _, q⟩ := hs
      exact q.elim
section
end
end DL
/-! EX5: calls that may raise. -/
namespace DL
open PySem PySem.Spec PyProof.Rows L2
abbrev MR := Rho → Cs → Option RX
def tXR (K : PySem.W.Frag) (f : MR) (W : WX) : TE := fun σ H Q => ∃ ρ O cs x, f ρ cs = some x ∧ EnvOk K O H ρ σ ∧ Wd K O cs H ∧ PostR K O H x Q fun cls dd H' => W cls dd σ H'
/-- an expression that may raise -/
def XR (X : Cx) (f : MR) (e : Expr) : Prop := ∀ W, Takes X W → PE X e (tXR X.K f W)
section
variable {X : Cx}
theorem PostR.step {K : PySem.W.Frag} {O : List (Option Addr)} {H H1 : Hp} {cs1 : Cs} {x : RX} {Q : VK} {E : L2.XK} (h : PostR K O H x Q E) (c : Ch O H H1) (w1 : Wd K O cs1 H1) : PostR K O H1 x Q E := by
  cases x with
  | ex nm d cs' => exact fun cls dd H' c' w' e => h cls dd H' (c.trans c') w' e
  | ok r cs' => exact PostX.step h c w1
theorem PA.nox' {es : List Expr} {t : TA} (h : PA X.nox es t) : PA X es t := ⟨fun pos pins s σ H Q I hw =>
  wpAny_mono (h.run pos pins s σ H Q (I.wish _) hw) (fun _ _ ⟨vs, H', I', r, q⟩ => ⟨vs, H', I'.unwish, r, q⟩) fun _ _ z => False.elim z⟩
theorem callX_end {k : Nat} {f : Addr} {fd : FuncData} {ps : List Str} {m : MFX} {W : WX} {pins : List (Addr × Obj)} {σ : L2.St} {H : Hp} {s : Shared} {Q : VK} {us : List Value} {kw : List (Str × Value)} {us2 : List Value} {vs : List V} {rs : List Rv} {O : List (Option Addr)} {cs : Cs} {x : RX} (tk : Takes X W) (F : FnX X.prog X.w X.K X.mg X.base k f fd ps m) (hr : Room k X.A) (hg : X.A.guards = some []) (hnd : X.base.NoDigits)
    (I : Inv X pins σ H s) (hb : BindsTo s fd ⟨us, kw⟩ (ps.zip us2)) (rv : Vals vs us2) (hl : rs.length = ps.length) (wd : Wd X.K O cs H) (ar : ArRs X.K O H rs vs) (em : m rs cs = some x) (p : PostR X.K O H x Q fun cls dd H' => W cls dd σ H') :
    wpAny (model X.prog X.w) X.A (call (.ref f) us kw) (EP X pins σ Q) X.xe s := by
  refine wpAny_call (codeAny_mono (F.run X.A X.stack s H ⟨us, kw⟩ us2 vs Q (fun cls dd H' => W cls dd σ H') rs O cs x hg hnd hr I.env0 hb rv (by rw [← ar.length]; exact hl) wd ar em p) fun r s' hq => ?_)
  cases r with
  | error e => exact tk _ _ (XE.of_call I (fun _ _ _ h => h) hq)
  | ok fl => cases fl with
    | ret u => exact I.after hq
    | next => exact hq.elim
    | brk => exact hq.elim
    | cont => exact hq.elim
def mCallX (n : Nat) (m : MFX) (fa : MA) : MR := fun ρ cs => (fa ρ cs).bind fun p => if p.1.length = n then m p.1 p.2 else none
theorem xr_call {k : Nat} {f : Addr} {fd : FuncData} {ps : List Str} {m : MFX} {x : Str} {e : Expr} {es : List Expr} {fa : MA} {p pos : Pos} (F : FnX X.prog X.w X.K X.mg X.base k f fd ps m) (hr : Room k X.A) (rm : Rm X.nox) (hg : Gl X x) (hm : X.mg x = some (.ref f)) (hk : PySem.W.keepIn X.K (.ref f) = true)
    (hb : Binds X.K fd ps []) (ha : XA X.nox fa (e :: es)) (hdb : (x == ("__debug__" : Str)) = false := by decide)
    (he : starEach (e :: es) X.env = (false, eval e X.env) :: starEach es X.env := by rfl) (hpl : (backTo pos (starEach es X.env)).any (·.1) = false := by rfl) : XR X (mCallX ps.length m fa) (.Call (.Name x p) (e :: es) [] pos) := fun W tk => by
  refine ⟨fun pins s σ H Q I ⟨ρ, O, cs, y, e0, en, w, pq⟩ => ?_⟩
  obtain ⟨⟨rs, cs1⟩, h1, h2⟩ := Option.bind_eq_some_iff.mp e0
  obtain ⟨hl, em⟩ := ite_none h2
  refine wpAny_Call_Name_kw (ld_glob I hg hm ?_ hdb)
  have ha' : PA X (e :: es) (tXA X.K fa) := PA.nox' ha
  have hrun := ha'.run pos pins s σ H (ArgP X.K O H cs1 rs) I ⟨ρ, O, cs, rs, cs1, h1, en, w, fun vs H' c w' ra => ⟨c, w', ra⟩⟩
  refine PySem.W.callWith_K (h₀ := X.base) I.ok.mod.kin hk (thn hrun fun us s1 hus => ?_) he hpl
  obtain ⟨vs, H1, I1, rv, c1, w1, ra⟩ := hus
  refine ⟨I1.kIn, ?_⟩
  have hb' := hb s1 us I1.kIn (by rw [List.append_nil, ← rv.length, ← ra.length]; exact hl)
  rw [List.append_nil] at hb'
  exact callX_end tk F hr rm.gd rm.nd I1 hb' rv hl w1 ra em (pq.step c1 w1)
/-- the call alone -/
def xExpr (f : MR) : MX := fun _ ρ cs => (f ρ cs).map fun x => match x with
  | .ex nm d cs' => .ex nm d ρ cs'
  | .ok _ cs' => .out (.nx ρ cs')
theorem x1_expr {e : Expr} {f : MR} {pos : Pos} (he : XR X f e) (hs : swapsWith e none pos.line X.env = pure false := by rfl) : X1 X (xExpr f) (.Expr e pos) := fun W tk =>
  ps_weak (ps_expr (he W tk) hs) fun D σ H ⟨n0, ρ, O, cs, y, e0, hn, en, w, p⟩ => by
    obtain ⟨x, h1, rfl⟩ := Option.map_eq_some_iff.mp e0
    refine ⟨ρ, O, cs, x, h1, en, w, ?_⟩
    cases x with
    | ex nm d cs' => exact fun cls dd H' c w' hx => p cls dd σ O H' .refl c (en.ch c) w' hx
    | ok r cs' => exact fun v H' c w' rv => p σ O H' .refl c (en.ch c) w'
/-- return the call -/
def xRet (f : MR) : MX := fun n0 ρ cs => (f ρ cs).bind fun x => match x with
  | .ex nm d cs' => some (.ex nm d ρ cs')
  | .ok r cs' => (sRet (fun _ _ => some (r, cs')) n0 ρ cs').map .out
theorem x1_ret {e : Expr} {f : MR} {pos : Pos} (he : XR X f e) : X1 X (xRet f) (.Return (some e) pos) := fun W tk =>
  ps_weak (ps_ret (he W tk)) fun D σ H ⟨n0, ρ, O, cs, y, e0, hn, en, w, p⟩ => by
    obtain ⟨x, h1, h2⟩ := Option.bind_eq_some_iff.mp e0
    refine ⟨ρ, O, cs, x, h1, en, w, ?_⟩
    cases x with
    | ex nm d cs' =>
      cases h2
      exact fun cls dd H' c w' hx => p cls dd σ O H' .refl c (en.ch c) w' hx
    | ok r cs1 =>
      obtain ⟨o, h3, rfl⟩ := Option.map_eq_some_iff.mp h2
      intro v H' c w' rv
      cases r with
      | dat d => cases h3; exact p v O H' .refl c w' rv
      | exn nm d => cases h3
      | own k =>
        obtain ⟨_, h4⟩ := ite_some (show (if n0 ≤ k then some (Out.rt (.own k) cs1) else none) = some o from h3)
        subst h4
        exact p v O H' .refl c w' rv
      | fr l =>
        cases h3
        obtain ⟨q, rfl, hq, w2⟩ := rv
        refine p _ (O ++ [some q]) H' (ext_new (K := X.K) hn hq) c w2 ⟨q, rfl, ?_⟩
        show (O ++ [some q])[cs1.length]? = some (some q)
        rw [w'.len]; simp
/-- name = the call: data -/
def xSet (i : Nat) (f : MR) : MX := fun _ ρ cs => (f ρ cs).bind fun x => match x with
  | .ex nm d cs' => some (.ex nm d ρ cs')
  | .ok r cs' => match deg r with
    | .dat d => some (.out (.nx (ρ.set i (some (.dat d))) cs'))
    | _ => none
theorem x1_set {i : Nat} {x : Str} {e : Expr} {f : MR} {pos pos' : Pos} (hN : X.N.Nodup) (hi : X.N[i]? = some x) (hx : Loc X.env.scope x) (he : XR X f e) (hs : swapsWith e (some (.Name x pos')) pos.line X.env = pure false := by rfl)
    (hf : X.fn x = true ∨ X.env.scope.names.lookup x = some .local := by first | exact .inl rfl | exact .inr rfl) : X1 X (xSet i f) (.Assign [.Name x pos'] e pos) := fun W tk =>
  ps_weak (ps_set hN hi hx (he W tk) hs hf) fun D σ H ⟨n0, ρ, O, cs, y, e0, hn, en, w, p⟩ => by
    obtain ⟨z, h1, h2⟩ := Option.bind_eq_some_iff.mp e0
    refine ⟨ρ, O, cs, z, h1, en, w, ?_⟩
    cases z with
    | ex nm d cs' =>
      cases h2
      exact fun cls dd H' c w' hx => p cls dd σ O H' .refl c (en.ch c) w' hx
    | ok r cs1 =>
      intro v H' c w' rv
      have rr := rv.deg
      dsimp only at h2
      split at h2
      · rename_i d hd'
        cases h2
        rw [hd'] at rr
        exact p _ O H' .refl c ((en.ch c).set i rr) w'
      · cases h2
/-- the plain contract: where nothing is raised -/
def okM (m : MFX) : MF := fun rs cs => (m rs cs).bind fun x => match x with
  | .ok r cs' => some (r, cs')
  | .ex _ _ _ => none
theorem FnX.plain {P : Program} {w : World} {K : PySem.W.Frag} {mg : Str → Option Value} {base : Heap} {k : Nat} {f : Addr} {fd : FuncData} {ps : List Str} {m : MFX} (F : FnX P w K mg base k f fd ps m) : FnD P w K mg base k f fd ps (okM m) :=
  ⟨fun A outer s H args us vs Q rs O cs r cs' hg hnd hr e0 hb rv hl wd ar em p => by
    obtain ⟨x, h1, h2⟩ := Option.bind_eq_some_iff.mp em
    cases x with
    | ex nm d cs1 => cases h2
    | ok r1 cs1 =>
      cases h2
      refine codeAny_mono (F.run A outer s H args us vs Q (fun _ _ _ => False) rs O cs _ hg hnd hr e0 hb rv hl wd ar h1 p) fun res s' hq => ?_
      cases res with
      | error e =>
        obtain ⟨_, _, _, _, _, _, _, _, _, _, _, _, z⟩ := hq
        exact z.elim
      | ok fl =>
        cases fl with
        | ret u => exact hq
        | next => exact hq.elim
        | brk => exact hq.elim
        | cont => exact hq.elim⟩
theorem FnX.mono {P : Program} {w : World} {K : PySem.W.Frag} {mg : Str → Option Value} {base : Heap} {j k : Nat} {f : Addr} {fd : FuncData} {ps : List Str} {m : MFX} (F : FnX P w K mg base j f fd ps m) (h : j ≤ k) : FnX P w K mg base k f fd ps m :=
  ⟨fun A outer s H args us vs Q E rs O cs x hg hnd hr => F.run A outer s H args us vs Q E rs O cs x hg hnd (hr.mono h)⟩
/-- a def that may raise, ready to be called -/
structure CalX (P : Program) (w : World) (K : PySem.W.Frag) (mg : Str → Option Value) (base : Heap) (k : Nat) (x : Str) (st : Stmt) (ps : List Str) (m : MFX) : Prop where
  ex : ∃ (f : Addr) (fd : FuncData), FunD K x x (defArgs st) (defBody st) (defScope st) [] [] f fd ∧ FnX P w K mg base k f fd ps m ∧ mg x = some (.ref f) ∧ Binds K fd ps []
theorem CalX.plain {P : Program} {w : World} {K : PySem.W.Frag} {mg : Str → Option Value} {base : Heap} {k : Nat} {x : Str} {st : Stmt} {ps : List Str} {m : MFX} (C : CalX P w K mg base k x st ps m) : Cal P w K mg base k x st ps (okM m) :=
  let ⟨f, fd, F, G, hm, hb⟩ := C.ex
  ⟨⟨f, fd, F, G.plain, hm, hb⟩⟩
theorem wr_call {k j n : Nat} {x : Str} {st : Stmt} {ps : List Str} {m : MFX} {e : Expr} {es : List Expr} {fa : MA} {p pos : Pos} (C : CalX X.prog X.w X.K X.mg X.base j x st ps m) (hr : Room k X.A) (rm : Rm X.nox) (ha : XA X.nox fa (e :: es)) (hj : j ≤ k := by decide) (hg : Gl X x := by rfl) (hdb : (x == ("__debug__" : Str)) = false := by decide)
    (he : starEach (e :: es) X.env = (false, eval e X.env) :: starEach es X.env := by rfl) (hpl : (backTo pos (starEach es X.env)).any (·.1) = false := by rfl) (hn : ps.length = n := by rfl) : XR X (mCallX n m fa) (.Call (.Name x p) (e :: es) [] pos) := by
  subst hn
  obtain ⟨f, fd, F, G, hm, hb⟩ := C.ex
  exact xr_call G (hr.mono hj) rm hg hm F.kp hb ha hdb he hpl
theorem calX_of {P : Program} {w : World} {K : PySem.W.Frag} {mg : Str → Option Value} {base : Heap} {k : Nat} {x : Str} {st : Stmt} {ps : List Str} {N : List Str} {b : MX} (F : ∃ f fd, FunD K x x (defArgs st) (defBody st) (defScope st) [] [] f fd ∧ mg x = some (.ref f)) (S : FnScope N ps (defScope st))
    (hb : ∀ (kV doc pm : Value) (an : Option Addr) (cdv ct : Value) (us : List Value), us.length = ps.length → bindArgs (PySem.W.fnOf x x (defArgs st) (defBody st) (defScope st) .none kV doc pm an cdv ct) ⟨us, []⟩ = pure (ps.zip us))
    (h : ∀ (f : Addr) (cdv : Value) (A : Around) (outer : List Env) (s : Shared) (H : Hp) (E : L2.XK), Room k (A.deeper (envOfC x (defScope st) s.heap.objs.size f cdv)) → Rm (cxX P w K mg base N x (defScope st) f cdv A outer s H E).nox → (cxX P w K mg base N x (defScope st) f cdv A outer s H E).calm = true → XSX (cxX P w K mg base N x (defScope st) f cdv A outer s H E) b (defBody st)) :
    CalX P w K mg base (k + 1) x st ps (fnX N.length b) := by
  obtain ⟨f, fd, F, hm⟩ := F
  exact ⟨f, fd, F, fnX_of F S fun cdv A outer s H E hr rm hc => h f cdv A outer s H E hr rm hc, hm, F.bindsN hb⟩
end
end DL
/-! EX6: try, for over what may raise, either of two calls. -/
namespace DL
open PySem PySem.Spec PyProof.Rows L2
section
variable {X : Cx}
theorem EnvOk.unset {K : PySem.W.Frag} {O : List (Option Addr)} {H : Hp} {ρ : Rho} {σ : L2.St} (e : EnvOk K O H ρ σ) (i : Nat) : EnvOk K O H (ρ.set i none) (σ.set i none) := e.wipe [i]
/-- try: body; except nm' as (slot i): (slot j) = (slot i) -/
def sTry (nm' : Str) (i j : Nat) (f : MX) : MS := fun n0 ρ cs => (f n0 ρ cs).bind fun x => match x with
  | .out o => some o
  | .ex nm d ρ' cs' => if (decide (i < ρ'.length) && subN nm nm') = true then some (.nx ((ρ'.set j (some (.exn nm d))).set i none) cs') else none
theorem xs_try {x n m : Str} {CC : Addr} {i j : Nat} {body : List Stmt} {f : MX} {np p1 p2 p3 pos pos' : Pos} (hc : ClsOf X.K X.mg x CC) (hbe : PySem.W.subIn X.K (.ref CC) (.type "BaseException") = some true)
    (hN : X.N.Nodup) (hb : ∀ (pn : List (Addr × Obj)) (xe : Value → Shared → Prop), PassesOwn (model X.prog X.w) X.A X.env xe → XSX (X.tr pn xe) f body)
    (hi : X.N[i]? = some n := by rfl) (hj : X.N[j]? = some m := by rfl) (hij : (i == j) = false := by decide) (hln : X.env.kindOf n = some .local := by rfl) (hloc : Loc X.env.scope m := by first | exact Or.inl rfl | exact Or.inr rfl)
    (hg : Gl X x := by rfl) (hdb : (x == ("__debug__" : Str)) = false := by decide) (hv : Vis X.env.scope n := by first | exact Or.inl rfl | exact Or.inr (Or.inl rfl) | exact Or.inr (Or.inr rfl)) (hd : (n == ("__debug__" : Str)) = false := by decide) (hcd : (n == ("__classdict__" : Str)) = false := by decide)
    (hs : swapsWith (.Name n p2) (some (.Name m p1)) p3.line X.env = pure false := by rfl) (hfn : X.fn m = true ∨ X.env.scope.names.lookup m = some .local := by first | exact .inl rfl | exact .inr rfl)
    (hex : X.ex = [] := by rfl) (hst : X.stack = X.env :: X.outer := by rfl) (hf : X.env.frame = some X.env.locals := by rfl) :
    XS X (sTry x i j f) (.Try body [.ExceptHandler (some (.Name x np)) (some n) [.Assign [.Name m p1] (.Name n p2) p3] pos'] [] [] pos) := by
  have hij' : i ≠ j := by simpa using hij
  refine ps_weak (ps_try_keep (Wout := fun _ _ _ _ => False) (i := i) (c := .ref CC) (tb := fun W => tSX X.K f W) (ts := fun a cls d D σ H => ∃ v, σ[i]? = some (some v) ∧ D.nx (σ.set j (some v)) H) hex hst hf hN hi hln ⟨hg, hdb, .inl hc.g⟩ (fun u s' ⟨_, _, _, _, _, _, _, _, _, _, _, _, _, _, _, _, z⟩ => z.elim)
    (fun W pn xe tk po => hb pn xe po W tk) (fun a oe cls d pn hz hd' => pss_weak (pss_one (ps_set (X := X.suite a ((a, oe) :: pn)) hN hj hloc (pe_var hi hv hd hcd) hs hfn)) fun D σ H h => h)) ?_
  intro D σ H ⟨n0, ρ, O, cs, out, e0, hn, en, w, p⟩
  obtain ⟨x, e1, e2⟩ := Option.bind_eq_some_iff.mp e0
  refine ⟨n0, ρ, O, cs, x, e1, hn, en, w, ?_⟩
  cases x with
  | out o =>
    cases e2
    exact p
  | ex nm d ρ' cs' =>
    obtain ⟨hsub', rfl⟩ := ite_some (show (if (decide (i < ρ'.length) && subN nm _) = true then some (Out.nx ((ρ'.set j (some (.exn nm d))).set i none) cs') else none) = some out from e2)
    rw [Bool.and_eq_true, decide_eq_true_iff] at hsub'
    obtain ⟨hlt, hsub⟩ := hsub'
    rintro cls dd σ' O' H' ex c en' w' ⟨C, a0, y, rfl, rfl, kd, hx, ry⟩
    refine ⟨true, by rw [kd.exm _ hc.mem hbe, hsub], fun _ a na => ?_, fun z => nomatch z⟩
    have hiN : i < σ'.length := by
      rw [← en'.len]; exact hlt
    refine ⟨.ref a, by rw [List.getElem?_set_self hiN], ?_⟩
    have c2 : Ch O' H' (upd H' a (exv a (.ref C) (some a0))) := ch_new na
    have w2 : Wd X.K O' cs' (upd H' a (exv a (.ref C) (some a0))) := w'.new na
    refine p _ O' _ ex (c.ext ex c2) ?_ w2
    have ar : ArR X.K O' (.exn nm d) (.ref a) (upd H' a (exv a (.ref C) (some a0))) := by
      refine ⟨a, C, a0, y, rfl, kd, hd_of (w'.fresh na) upd_same, c2.data _ _ hx, ry.mono c2.data⟩
    have e3 := (((en'.unset i).ch c2).set j ar).unset i
    have q1 : ((ρ'.set i none).set j (some (Rv.exn nm d))).set i none = (ρ'.set j (some (.exn nm d))).set i none := by
      rw [List.set_comm _ _ hij', List.set_set]
    have q2 : ((σ'.set i none).set j (some (V.ref a))).set i none = ((σ'.set i (some (V.ref a))).set j (some (.ref a))).set i none := by
      rw [List.set_comm _ _ hij', List.set_set, List.set_comm (some (V.ref a)) _ hij', List.set_set]
    rw [q1, q2] at e3
    exact e3
/-! ### for over what may raise -/
def loopX (g : MG) (b : MX) (n0 : Nat) : List D → Rho → Cs → Option XOu
  | [], ρ, cs => some (.out (.nx ρ cs))
  | d :: ds, ρ, cs => (g d ρ).bind fun ρ1 => (b n0 ρ1 cs).bind fun o => match o with
    | .out (.nx ρ2 cs2) => loopX g b n0 ds ρ2 cs2
    | .out (.ct ρ2 cs2) => loopX g b n0 ds ρ2 cs2
    | .out (.bk ρ2 cs2) => some (.out (.nx ρ2 cs2))
    | .out (.rt r cs2) => some (.out (.rt r cs2))
    | .ex nm d ρ2 cs2 => some (.ex nm d ρ2 cs2)
def xFor (f : MI) (g : MG) (b : MX) : MX := fun n0 ρ cs => (f ρ cs).bind fun p => loopX g b n0 p.1 ρ p.2
theorem x1_for {tg iter : Expr} {body : List Stmt} {f : MI} {g : MG} {b : MX} {pos : Pos} {ws : List Nat} (hp : PassesOwn (model X.prog X.w) X.A X.env X.xe) (hc : X.calm = true) (hi : XI X f tg iter) (hg : XG X ws g tg) (hb : XSX X b body)
    (hs : ∀ x, foldedSetIterable iter X.env x = pure x := by intro _; rfl) : X1 X (xFor f g b) (.For tg iter body [] pos) := fun W tk =>
  ps_weak (ps_for hp hc hi hg (hb W tk) hs) fun D σ H ⟨n0, ρ, O, cs, out, e0, hn, en, w, p⟩ => by
    obtain ⟨⟨ds, cs1⟩, g1, g2⟩ := Option.bind_eq_some_iff.mp e0
    clear e0
    refine ⟨ρ, O, cs, ds, cs1, g1, en, w, fun J H1 c1 w1 wk => ?_⟩
    have p1 := p.step w w1 .refl c1
    refine ⟨fun i m σ' H' => m = ds.length - i ∧ i ≤ ds.length ∧ ∃ ρ' O' cs', loopX g b n0 (ds.drop i) ρ' cs' = some out ∧ EnvOk X.K O' H' ρ' σ' ∧ Wd X.K O' cs' H' ∧ Ext n0 O O' H1 ∧ Ch O H1 H', ⟨ds.length, by simp, Nat.zero_le _, ρ, O, cs1, g2, en.ch c1, w1, .refl, .refl⟩, ?_⟩
    rintro i m σ' H' ⟨rfl, hi', ρ', O', cs', e1, en', w', ex', ch'⟩
    have sb : Sub O H1 O' H' := Sub.of ex' ch'
    have hn' : n0 ≤ O'.length := ex'.len hn
    have p' : PostX' X.K n0 O' H' out W D := p1.step w1 w' ex' ch'
    by_cases hlt : i < ds.length
    · have hd' : ds[i]? = some ds[i] := List.getElem?_eq_getElem hlt
      rw [List.drop_eq_getElem_cons hlt] at e1
      obtain ⟨ρ1, h1, e2⟩ := Option.bind_eq_some_iff.mp e1
      obtain ⟨o, h3, e3⟩ := Option.bind_eq_some_iff.mp e2
      clear e1 e2
      obtain ⟨go, yl⟩ := (wk i O' cs' H' sb w').2 _ hd'
      refine .inr ⟨go, fun σ2 H2 => i + 1 ≤ ds.length ∧ ∃ ρ2 O2 cs2, loopX g b n0 (ds.drop (i + 1)) ρ2 cs2 = some out ∧ EnvOk X.K O2 H2 ρ2 σ2 ∧ Wd X.K O2 cs2 H2 ∧ Ext n0 O O2 H1 ∧ Ch O H1 H2, fun σ2 H2 h2 => ⟨ds.length - (i + 1), by omega, rfl, h2⟩, fun x H3 hy => ?_⟩
      obtain ⟨c3, w3, r3⟩ := yl x H3 hy
      refine ⟨ρ', O', cs', ds[i], ρ1, h1, r3, en'.ch c3, w3, fun σ4 en4 _ => ?_⟩
      refine ⟨n0, ρ1, O', cs', o, h3, hn', en4, w3, ?_⟩
      have again : ∀ ρ2 cs2, loopX g b n0 (ds.drop (i + 1)) ρ2 cs2 = some out → ∀ σ5 O5 H5, Ext n0 O' O5 H3 → Ch O' H3 H5 → EnvOk X.K O5 H5 ρ2 σ5 → Wd X.K O5 cs2 H5 →
          i + 1 ≤ ds.length ∧ ∃ ρ2 O2 cs2, loopX g b n0 (ds.drop (i + 1)) ρ2 cs2 = some out ∧ EnvOk X.K O2 H5 ρ2 σ5 ∧ Wd X.K O2 cs2 H5 ∧ Ext n0 O O2 H1 ∧ Ch O H1 H5 := fun ρ2 cs2 hl σ5 O5 H5 e5 c5 en5 w5 => by
        have ex3 : Ext n0 O O' H1 := ex'
        have ch3 : Ch O H1 H3 := ch'.ext ex' c3
        exact ⟨hlt, ρ2, O5, cs2, hl, en5, w5, ex3.trans w1 w3 ch3 e5, ch3.ext ex3 c5⟩
      have p3 : PostX' X.K n0 O' H3 out W D := p'.step w' w3 .refl c3
      cases o with
      | ex nm d ρ2 cs2 => cases e3; exact p3
      | out o =>
        cases o with
        | nx ρ2 cs2 => exact again ρ2 cs2 e3
        | ct ρ2 cs2 => exact again ρ2 cs2 e3
        | bk ρ2 cs2 => cases e3; exact p3
        | rt r cs2 => cases e3; exact p3
    · have ei : i = ds.length := by omega
      subst ei
      rw [List.drop_length] at e1
      cases e1
      exact .inl ⟨(wk ds.length O' cs' H' sb w').1 (Nat.le_refl _), p' _ O' H' .refl .refl en' w'⟩
/-! ### one of two calls -/
def rIf (c : MT) (f g : MR) : MR := fun ρ cs => (c ρ cs).bind fun p => if p.1 = true then f ρ p.2 else g ρ p.2
theorem xr_if {c a b : Expr} {t : MT} {f g : MR} {pos : Pos} (hc : XT X.nox t c) (ha : XR X f a) (hb : XR X g b) : XR X (rIf t f g) (.IfExp c a b pos) := fun W tk => by
  have hc' : PT X c (tXT X.K t) := PT.nox hc
  refine pe_weak (pe_ifExp hc' (ha W tk) (hb W tk)) fun σ H Q ⟨ρ, O, cs, x, e0, en, w, p⟩ => ?_
  obtain ⟨⟨k, cs1⟩, h1, h2⟩ := Option.bind_eq_some_iff.mp e0
  refine ⟨ρ, O, cs, k, cs1, h1, en, w, fun H' c' w' => ?_⟩
  have p' := p.step c' w'
  cases k with
  | true => exact ⟨ρ, O, cs1, x, h2, en.ch c', w', p'⟩
  | false => exact ⟨ρ, O, cs1, x, h2, en.ch c', w', p'⟩
/-- a plain expression beside one that raises -/
def rPl (f : ME) : MR := fun ρ cs => (f ρ cs).map fun p => .ok p.1 p.2
theorem xr_pl {e : Expr} {f : ME} (h : XE X.nox f e) : XR X (rPl f) e := fun W tk => by
  have h' : PE X e (tX X.K f) := PE.nox h
  refine pe_weak h' fun σ H Q ⟨ρ, O, cs, x, e0, en, w, p⟩ => ?_
  obtain ⟨⟨r, cs1⟩, h1, rfl⟩ := Option.map_eq_some_iff.mp e0
  exact ⟨ρ, O, cs, r, cs1, h1, en, w, p⟩
end
end DL
/-! EV2: running mirrors that may raise. -/
namespace DL
open PySem PySem.Spec PyProof.Rows L2
section
variable {fa fb fe : ME} {ρ : Rho} {cs : Cs} {Q : Rv → Cs → Prop} {QS : Out → Prop} {QX : XOu → Prop} {QR : RX → Prop} {n0 : Nat} {f g : MX} {h : MR}
def Ex (f : MX) (n0 : Nat) (ρ : Rho) (cs : Cs) (Q : XOu → Prop) : Prop := wpd (f n0 ρ cs) Q
def Er (f : MR) (ρ : Rho) (cs : Cs) (Q : RX → Prop) : Prop := wpd (f ρ cs) Q
def Emx (m : MFX) (rs : List Rv) (cs : Cs) (Q : RX → Prop) : Prop := wpd (m rs cs) Q
@[simp] theorem deg_exn {nm : Str} {d : D} : deg (.exn nm d) = .exn nm d := rfl
@[simp] theorem ex_xTail {b : MS} : Ex (xTail b) n0 ρ cs QX ↔ Es b n0 ρ cs fun o => QX (.out o) := wpd_map
@[simp] theorem ex_xOut {b : MS} : Ex (xOut b) n0 ρ cs QX ↔ Es b n0 ρ cs fun o => QX (.out o) := wpd_map
@[simp] theorem ex_xNil : Ex xNil n0 ρ cs QX ↔ QX (.out (.nx ρ cs)) := Iff.rfl
def NxX (n0 : Nat) (g : MX) (Q : XOu → Prop) : Out → Prop
  | .nx ρ cs => Ex g n0 ρ cs Q
  | o => Q (.out o)
@[simp] theorem nxx_nx : NxX n0 g QX (.nx ρ cs) ↔ Ex g n0 ρ cs QX := Iff.rfl
@[simp] theorem nxx_rt {r : Rv} : NxX n0 g QX (.rt r cs) ↔ QX (.out (.rt r cs)) := Iff.rfl
@[simp] theorem nxx_bk : NxX n0 g QX (.bk ρ cs) ↔ QX (.out (.bk ρ cs)) := Iff.rfl
@[simp] theorem nxx_ct : NxX n0 g QX (.ct ρ cs) ↔ QX (.out (.ct ρ cs)) := Iff.rfl
@[simp] theorem ex_xSeq {b : MS} : Ex (xSeq b g) n0 ρ cs QX ↔ Es b n0 ρ cs (NxX n0 g QX) := by
  unfold Ex Es xSeq
  rw [wpd_bind]
  refine iff_of_eq (congrArg _ (funext fun o => propext ?_))
  cases o <;> exact Iff.rfl
def NxQ (n0 : Nat) (g : MX) (Q : XOu → Prop) : XOu → Prop
  | .out (.nx ρ cs) => Ex g n0 ρ cs Q
  | x => Q x
@[simp] theorem nxq_nx : NxQ n0 g QX (.out (.nx ρ cs)) ↔ Ex g n0 ρ cs QX := Iff.rfl
@[simp] theorem nxq_rt {r : Rv} : NxQ n0 g QX (.out (.rt r cs)) ↔ QX (.out (.rt r cs)) := Iff.rfl
@[simp] theorem nxq_bk : NxQ n0 g QX (.out (.bk ρ cs)) ↔ QX (.out (.bk ρ cs)) := Iff.rfl
@[simp] theorem nxq_ct : NxQ n0 g QX (.out (.ct ρ cs)) ↔ QX (.out (.ct ρ cs)) := Iff.rfl
@[simp] theorem nxq_ex {nm : Str} {d : D} : NxQ n0 g QX (.ex nm d ρ cs) ↔ QX (.ex nm d ρ cs) := Iff.rfl
@[simp] theorem ex_xSq : Ex (xSq f g) n0 ρ cs QX ↔ Ex f n0 ρ cs (NxQ n0 g QX) := by
  unfold Ex xSq
  rw [wpd_bind]
  refine iff_of_eq (congrArg _ (funext fun x => propext ?_))
  cases x with
  | ex nm d ρ cs => exact Iff.rfl
  | out o => cases o <;> exact Iff.rfl
@[simp] theorem ex_xIf {c : MT} : Ex (xIf c f g) n0 ρ cs QX ↔ Et c ρ cs fun b cs1 => if b = true then Ex f n0 ρ cs1 QX else Ex g n0 ρ cs1 QX := by
  unfold Ex Et xIf
  rw [wpo_bindd]
  refine iff_of_eq (congrArg _ (funext fun b => funext fun cs1 => propext ?_))
  cases b <;> simp
@[simp] theorem ex_xRaise {nm : Str} : Ex (xRaise nm fe) n0 ρ cs QX ↔ Ev fe ρ cs fun r cs1 => DatOf r fun d => QX (.ex nm d ρ cs1) := by
  unfold Ex Ev xRaise DatOf
  rw [wpo_bindd]
  refine iff_of_eq (congrArg _ (funext fun x => funext fun cs1 => propext ?_))
  cases x <;> exact Iff.rfl
@[simp] theorem er_mCallX {n : Nat} {m : MFX} {fr : MA} : Er (mCallX n m fr) ρ cs QR ↔ Ea fr ρ cs fun rs cs1 => rs.length = n ∧ Emx m rs cs1 QR := by
  unfold Er Ea Emx mCallX
  rw [wpo_bindd]
  refine iff_of_eq (congrArg _ (funext fun x => funext fun cs1 => propext ?_))
  exact wpd_ite
@[simp] theorem er_rIf {c : MT} {g : MR} : Er (rIf c h g) ρ cs QR ↔ Et c ρ cs fun b cs1 => if b = true then Er h ρ cs1 QR else Er g ρ cs1 QR := by
  unfold Er Et rIf
  rw [wpo_bindd]
  refine iff_of_eq (congrArg _ (funext fun b => funext fun cs1 => propext ?_))
  cases b <;> simp
@[simp] theorem er_rPl : Er (rPl fa) ρ cs QR ↔ Ev fa ρ cs fun r cs1 => QR (.ok r cs1) := wpo_mapd
/-- the result of a call, where it stands alone -/
def XE1 (ρ : Rho) (Q : XOu → Prop) : RX → Prop
  | .ex nm d cs' => Q (.ex nm d ρ cs')
  | .ok _ cs' => Q (.out (.nx ρ cs'))
@[simp] theorem xe1_ex {nm : Str} {d : D} : XE1 ρ QX (.ex nm d cs) ↔ QX (.ex nm d ρ cs) := Iff.rfl
@[simp] theorem xe1_ok {r : Rv} : XE1 ρ QX (.ok r cs) ↔ QX (.out (.nx ρ cs)) := Iff.rfl
@[simp] theorem ex_xExpr : Ex (xExpr h) n0 ρ cs QX ↔ Er h ρ cs (XE1 ρ QX) := by
  unfold Ex Er xExpr
  rw [wpd_map]
  refine iff_of_eq (congrArg _ (funext fun x => propext ?_))
  cases x <;> exact Iff.rfl
def XR1 (n0 : Nat) (ρ : Rho) (Q : XOu → Prop) : RX → Prop
  | .ex nm d cs' => Q (.ex nm d ρ cs')
  | .ok r cs' => Ret n0 r cs' fun o => Q (.out o)
@[simp] theorem xr1_ex {nm : Str} {d : D} : XR1 n0 ρ QX (.ex nm d cs) ↔ QX (.ex nm d ρ cs) := Iff.rfl
@[simp] theorem xr1_ok {r : Rv} : XR1 n0 ρ QX (.ok r cs) ↔ Ret n0 r cs fun o => QX (.out o) := Iff.rfl
@[simp] theorem ex_xRet : Ex (xRet h) n0 ρ cs QX ↔ Er h ρ cs (XR1 n0 ρ QX) := by
  unfold Ex Er xRet
  rw [wpd_bind]
  refine iff_of_eq (congrArg _ (funext fun x => propext ?_))
  cases x with
  | ex nm d cs' => exact Iff.rfl
  | ok r cs' =>
    show wpd ((sRet (fun _ _ => some (r, cs')) n0 ρ cs').map XOu.out) QX ↔ _
    rw [wpd_map]
    exact es_sRet
def XS1 (i : Nat) (ρ : Rho) (Q : XOu → Prop) : RX → Prop
  | .ex nm d cs' => Q (.ex nm d ρ cs')
  | .ok r cs' => DatOf r fun d => Q (.out (.nx (ρ.set i (some (.dat d))) cs'))
@[simp] theorem xs1_ex {i : Nat} {nm : Str} {d : D} : XS1 i ρ QX (.ex nm d cs) ↔ QX (.ex nm d ρ cs) := Iff.rfl
@[simp] theorem xs1_ok {i : Nat} {r : Rv} : XS1 i ρ QX (.ok r cs) ↔ DatOf r fun d => QX (.out (.nx (ρ.set i (some (.dat d))) cs)) := Iff.rfl
@[simp] theorem ex_xSet {i : Nat} : Ex (xSet i h) n0 ρ cs QX ↔ Er h ρ cs (XS1 i ρ QX) := by
  unfold Ex Er xSet
  rw [wpd_bind]
  refine iff_of_eq (congrArg _ (funext fun x => propext ?_))
  cases x with
  | ex nm d cs' => exact Iff.rfl
  | ok r cs' => cases r <;> exact Iff.rfl
def FinX (n : Nat) (Q : RX → Prop) : XOu → Prop
  | .ex nm d _ cs' => Q (.ex nm d (cs'.take n))
  | .out o => Fin n (fun r cs' => Q (.ok r cs')) o
@[simp] theorem finx_ex {n : Nat} {nm : Str} {d : D} : FinX n QR (.ex nm d ρ cs) ↔ QR (.ex nm d (cs.take n)) := Iff.rfl
@[simp] theorem finx_out {n : Nat} {o : Out} : FinX n QR (.out o) ↔ Fin n (fun r cs' => QR (.ok r cs')) o := Iff.rfl
theorem finM_iff {n : Nat} {o : Out} {Q : Rv → Cs → Prop} : wpo (finM n o) Q ↔ Fin n Q o := by
  cases o with
  | rt r cs' =>
    cases r with
    | dat d => exact Iff.rfl
    | fr c => exact Iff.rfl
    | exn nm d => exact Iff.rfl
    | own k =>
      show wpo (if n ≤ k then _ else none) Q ↔ n ≤ k ∧ wpd cs'[k]?.join _
      rw [wpo_ite]
      refine and_congr_right fun _ => ?_
      cases cs'[k]? with
      | none => exact Iff.rfl
      | some x => cases x <;> exact Iff.rfl
  | nx ρ cs' => exact Iff.rfl
  | bk _ _ => exact Iff.rfl
  | ct _ _ => exact Iff.rfl
theorem emx_fnX {n : Nat} {b : MX} {rs : List Rv} : Emx (fnX n b) rs cs QR ↔ Ex b cs.length (rs.map some ++ List.replicate (n - rs.length) none) cs (FinX cs.length QR) := by
  unfold Emx Ex fnX
  rw [wpd_bind]
  refine iff_of_eq (congrArg _ (funext fun x => propext ?_))
  cases x with
  | ex nm d ρ cs' => exact Iff.rfl
  | out o =>
    show wpd ((finM cs.length o).map fun p => RX.ok p.1 p.2) QR ↔ _
    rw [wpo_mapd]
    exact finM_iff
def OkX (Q : Rv → Cs → Prop) : RX → Prop
  | .ok r cs' => Q r cs'
  | .ex _ _ _ => False
@[simp] theorem okx_ok {r : Rv} : OkX Q (.ok r cs) ↔ Q r cs := Iff.rfl
@[simp] theorem okx_ex {nm : Str} {d : D} : OkX Q (.ex nm d cs) ↔ False := Iff.rfl
theorem em_okM {m : MFX} {rs : List Rv} : Em (okM m) rs cs Q ↔ Emx m rs cs (OkX Q) := by
  unfold Em Emx okM
  rw [wpd_bindo]
  refine iff_of_eq (congrArg _ (funext fun x => propext ?_))
  cases x <;> exact Iff.rfl
def Tr (nm' : Str) (i j : Nat) (Q : Out → Prop) : XOu → Prop
  | .out o => Q o
  | .ex nm d ρ' cs' => (decide (i < ρ'.length) && subN nm nm') = true ∧ Q (.nx ((ρ'.set j (some (.exn nm d))).set i none) cs')
@[simp] theorem tr_out {nm' : Str} {i j : Nat} {o : Out} : Tr nm' i j QS (.out o) ↔ QS o := Iff.rfl
@[simp] theorem tr_ex {nm' nm : Str} {d : D} {i j : Nat} : Tr nm' i j QS (.ex nm d ρ cs) ↔ (decide (i < ρ.length) && subN nm nm') = true ∧ QS (.nx ((ρ.set j (some (.exn nm d))).set i none) cs) := Iff.rfl
@[simp] theorem es_sTry {nm' : Str} {i j : Nat} : Es (sTry nm' i j f) n0 ρ cs QS ↔ Ex f n0 ρ cs (Tr nm' i j QS) := by
  unfold Es Ex sTry
  rw [wpd_bind]
  refine iff_of_eq (congrArg _ (funext fun x => propext ?_))
  cases x with
  | out o => exact Iff.rfl
  | ex nm d ρ' cs' => exact wpd_ite
def IsX1 (nm : Str) (r : Rv) (cs : Cs) (Q : Rv → Cs → Prop) : Prop := match r with
  | .exn n _ => Q (db (subN n nm)) cs
  | r => Rd1 r cs fun _ => Q (db false) cs
@[simp] theorem isx1_exn {nm n : Str} {d : D} : IsX1 nm (.exn n d) cs Q ↔ Q (db (subN n nm)) cs := Iff.rfl
@[simp] theorem isx1_dat {nm : Str} {d : D} : IsX1 nm (.dat d) cs Q ↔ Q (db false) cs := Iff.rfl
@[simp] theorem isx1_fr {nm : Str} {c : List D} : IsX1 nm (.fr c) cs Q ↔ Q (db false) cs := Iff.rfl
@[simp] theorem ev_mIsX {nm : Str} : Ev (mIsX nm fa) ρ cs Q ↔ Ev fa ρ cs fun r cs1 => IsX1 nm r cs1 Q := by
  unfold Ev mIsX
  rw [wpo_bind]
  refine iff_of_eq (congrArg _ (funext fun x => funext fun cs1 => propext ?_))
  cases x <;> first | exact Iff.rfl | exact wpd_mapo
def Val1 (r : Rv) (Q : D → Prop) : Prop := match r with
  | .exn _ d => Q d
  | _ => False
@[simp] theorem val1_exn {nm : Str} {d : D} {Q : D → Prop} : Val1 (.exn nm d) Q ↔ Q d := Iff.rfl
@[simp] theorem ev_mVal : Ev (mVal fa) ρ cs Q ↔ Ev fa ρ cs fun r cs1 => Val1 r fun d => Q (.dat d) cs1 := by
  unfold Ev mVal
  rw [wpo_bind]
  refine iff_of_eq (congrArg _ (funext fun x => funext fun cs1 => propext ?_))
  cases x <;> exact Iff.rfl
def IsN1 (p : Bool → Bool) (r : Rv) (cs : Cs) (Q : Rv → Cs → Prop) : Prop := match r with
  | .exn _ _ => Q (db (p false)) cs
  | r => Rd1 r cs fun d => Q (db (p (isNonD d))) cs
@[simp] theorem isn1_exn {p : Bool → Bool} {n : Str} {d : D} : IsN1 p (.exn n d) cs Q ↔ Q (db (p false)) cs := Iff.rfl
@[simp] theorem isn1_dat {p : Bool → Bool} {d : D} : IsN1 p (.dat d) cs Q ↔ Q (db (p (isNonD d))) cs := Iff.rfl
@[simp] theorem isn1_fr {p : Bool → Bool} {c : List D} : IsN1 p (.fr c) cs Q ↔ Q (db (p false)) cs := Iff.rfl
@[simp] theorem ev_mIsN {p : Bool → Bool} : Ev (mIsN p fa) ρ cs Q ↔ Ev fa ρ cs fun r cs1 => IsN1 p r cs1 Q := by
  unfold Ev mIsN
  rw [wpo_bind]
  refine iff_of_eq (congrArg _ (funext fun x => funext fun cs1 => propext ?_))
  cases x <;> first | exact Iff.rfl | exact wpd_mapo
def Elx (t : MG) (b : MX) (n0 : Nat) (ds : List D) (ρ : Rho) (cs : Cs) (Q : XOu → Prop) : Prop := wpd (loopX t b n0 ds ρ cs) Q
@[simp] theorem ex_xFor {i : MI} {t : MG} {b : MX} : Ex (xFor i t b) n0 ρ cs QX ↔ Ei i ρ cs fun ds cs1 => Elx t b n0 ds ρ cs1 QX := wpo_bindd
@[simp] theorem elx_nil {t : MG} {b : MX} : Elx t b n0 [] ρ cs QX ↔ QX (.out (.nx ρ cs)) := Iff.rfl
def Lpx (t : MG) (b : MX) (n0 : Nat) (ds : List D) (Q : XOu → Prop) : XOu → Prop
  | .out (.nx ρ cs) => Elx t b n0 ds ρ cs Q
  | .out (.ct ρ cs) => Elx t b n0 ds ρ cs Q
  | .out (.bk ρ cs) => Q (.out (.nx ρ cs))
  | .out (.rt r cs) => Q (.out (.rt r cs))
  | .ex nm d ρ cs => Q (.ex nm d ρ cs)
@[simp] theorem lpx_nx {t : MG} {b : MX} {ds : List D} : Lpx t b n0 ds QX (.out (.nx ρ cs)) ↔ Elx t b n0 ds ρ cs QX := Iff.rfl
@[simp] theorem lpx_ct {t : MG} {b : MX} {ds : List D} : Lpx t b n0 ds QX (.out (.ct ρ cs)) ↔ Elx t b n0 ds ρ cs QX := Iff.rfl
@[simp] theorem lpx_rt {t : MG} {b : MX} {ds : List D} {r : Rv} : Lpx t b n0 ds QX (.out (.rt r cs)) ↔ QX (.out (.rt r cs)) := Iff.rfl
@[simp] theorem lpx_ex {t : MG} {b : MX} {ds : List D} {nm : Str} {d : D} : Lpx t b n0 ds QX (.ex nm d ρ cs) ↔ QX (.ex nm d ρ cs) := Iff.rfl
theorem elx_cons {t : MG} {b : MX} {d : D} {ds : List D} : Elx t b n0 (d :: ds) ρ cs QX ↔ Eg t d ρ fun ρ1 => Ex b n0 ρ1 cs (Lpx t b n0 ds QX) := by
  unfold Elx Eg Ex
  rw [show loopX t b n0 (d :: ds) ρ cs = (t d ρ).bind fun ρ1 => (b n0 ρ1 cs).bind fun o => match o with
    | .out (.nx ρ2 cs2) => loopX t b n0 ds ρ2 cs2
    | .out (.ct ρ2 cs2) => loopX t b n0 ds ρ2 cs2
    | .out (.bk ρ2 cs2) => some (.out (.nx ρ2 cs2))
    | .out (.rt r cs2) => some (.out (.rt r cs2))
    | .ex nm d ρ2 cs2 => some (.ex nm d ρ2 cs2) from rfl, wpd_bind]
  refine iff_of_eq (congrArg _ (funext fun ρ1 => propext ?_))
  rw [wpd_bind]
  refine iff_of_eq (congrArg _ (funext fun o => propext ?_))
  cases o with
  | ex nm d ρ cs => exact Iff.rfl
  | out o => cases o <;> exact Iff.rfl
/-- a def that may raise, told by its plain law -/
theorem emx_mono {m : MFX} {rs : List Rv} {Q R : RX → Prop} (h : Emx m rs cs Q) (i : ∀ x, Q x → R x) : Emx m rs cs R := wpd_mono h i
end
end DL
/-! W1: rules as the printed walk names them. -/
namespace DL
open PySem PySem.Spec PyProof.Rows L2
section
variable {X : Cx}
theorem Rm.ofnox (rm : Rm X.nox) : Rm X := ⟨rm.hd, rm.un, rm.gd, rm.calm, rm.nd⟩
theorem Rm.tr (rm : Rm X) (pn : List (Addr × Obj)) (xe : Value → Shared → Prop) : Rm (X.tr pn xe).nox := ⟨rm.hd, rm.un, rm.gd, rm.calm, rm.nd⟩
theorem w_isX {e : Expr} {x : Str} {f : ME} {p pt pos : Pos} (hm : X.mg "isinstance" = none) (hc : ∃ C, ClsOf X.K X.mg x C) (he : XE X f e) (hg : Gl X "isinstance" := by rfl) (hx : Gl X x := by rfl) (hd : (x == ("__debug__" : Str)) = false := by decide)
    (h1 : starEach [e, .Name x pt] X.env = (false, eval e X.env) :: starEach [.Name x pt] X.env := by rfl) (hpl : (backTo pos (starEach [.Name x pt] X.env)).any (·.1) = false := by rfl) :
    XE X (mIsX x f) (.Call (.Name "isinstance" p) [e, .Name x pt] [] pos) := by
  obtain ⟨C, hc⟩ := hc
  exact xe_isX hg hm hx hc he hd h1 hpl
theorem w_val {e : Expr} {f : ME} {pos : Pos} (he : XE X f e) (hb : attributeBase e "value" X.env (eval e X.env) = eval e X.env := by rfl) : XE X (mVal f) (.Attribute e "value" pos) := xe_val he hb
theorem w_gval {x : Str} {d : D} {pos : Pos} (g : GVal X.K X.mg x d) (hg : Gl X x := by rfl) (hd : (x == ("__debug__" : Str)) = false := by decide) : XE X (xC d) (.Name x pos) := xe_gval hg g hd
theorem w_try {x n m : Str} (i j : Nat) {body : List Stmt} {f : MX} {np p1 p2 p3 pos pos' : Pos} (hc : ∃ C, ClsOf X.K X.mg x C ∧ PySem.W.subIn X.K (.ref C) (.type "BaseException") = some true)
    (hN : X.N.Nodup) (hb : ∀ (pn : List (Addr × Obj)) (xe : Value → Shared → Prop), PassesOwn (model X.prog X.w) X.A X.env xe → XSX (X.tr pn xe) f body)
    (hi : X.N[i]? = some n := by rfl) (hj : X.N[j]? = some m := by rfl) (hij : (i == j) = false := by decide) (hln : X.env.kindOf n = some .local := by rfl) (hloc : Loc X.env.scope m := by first | exact Or.inl rfl | exact Or.inr rfl)
    (hg : Gl X x := by rfl) (hdb : (x == ("__debug__" : Str)) = false := by decide) (hv : Vis X.env.scope n := by first | exact Or.inl rfl | exact Or.inr (Or.inl rfl) | exact Or.inr (Or.inr rfl)) (hd : (n == ("__debug__" : Str)) = false := by decide) (hcd : (n == ("__classdict__" : Str)) = false := by decide)
    (hs : swapsWith (.Name n p2) (some (.Name m p1)) p3.line X.env = pure false := by rfl) (hfn : X.fn m = true ∨ X.env.scope.names.lookup m = some .local := by first | exact .inl rfl | exact .inr rfl)
    (hex : X.ex = [] := by rfl) (hst : X.stack = X.env :: X.outer := by rfl) (hf : X.env.frame = some X.env.locals := by rfl) :
    XS X (sTry x i j f) (.Try body [.ExceptHandler (some (.Name x np)) (some n) [.Assign [.Name m p1] (.Name n p2) p3] pos'] [] [] pos) := by
  obtain ⟨C, hc, hb'⟩ := hc
  exact xs_try hc hb' hN hb hi hj hij hln hloc hg hdb hv hd hcd hs hfn hex hst hf
theorem w_raise {nm : Str} {a : Expr} {fe : ME} {p pos pos2 : Pos} {k : Nat} (R : RaC X.prog X.K X.mg nm) (hr : Room k X.A) (rm : Rm X.nox) (ha : XE X.nox fe a) (hg : Gl X nm := by rfl)
    (hdb : (nm == ("__debug__" : Str)) = false := by decide) (he : starEach (a :: []) X.env = (false, eval a X.env) :: starEach [] X.env := by rfl) (hpl : (backTo pos (starEach [] X.env)).any (·.1) = false := by rfl) :
    X1 X (xRaise nm fe) (.Raise (some (.Call (.Name nm p) [a] [] pos)) none pos2) := x1_raise R rm.calm hr ha hg hdb he hpl
theorem w_setX (i : Nat) {x : Str} {e : Expr} {f : MR} {pos pos' : Pos} (hN : X.N.Nodup) (he : XR X f e) (hi : X.N[i]? = some x := by rfl) (hx : Loc X.env.scope x := by first | exact Or.inl rfl | exact Or.inr rfl) (hs : swapsWith e (some (.Name x pos')) pos.line X.env = pure false := by rfl)
    (hf : X.fn x = true ∨ X.env.scope.names.lookup x = some .local := by first | exact .inl rfl | exact .inr rfl) : X1 X (xSet i f) (.Assign [.Name x pos'] e pos) := x1_set hN hi hx he hs hf
theorem w_forX (ws : List Nat) {tg iter : Expr} {body : List Stmt} {f : MI} {g : MG} {b : MX} {pos : Pos} (hp : PassesOwn (model X.prog X.w) X.A X.env X.xe) (rm : Rm X.nox) (hi : XI X f tg iter) (hg : XG X ws g tg) (hb : XSX X b body)
    (hs : ∀ x, foldedSetIterable iter X.env x = pure x := by intro _; rfl) : X1 X (xFor f g b) (.For tg iter body [] pos) := x1_for hp rm.calm hi hg hb hs
/-- the class's __init__ -/
def clsInit : Stmt → Stmt
  | .ClassDef _ _ _ body _ _ _ _ _ _ _ => (body.find? fun s => match s with
    | .FunctionDef n .. => n == ("__init__" : Str)
    | _ => false).getD (.Pass ⟨0, 0, 0, 0⟩)
  | s => s
end
end DL
/-! EX7: defs as values: called by a local name. -/
namespace DL
open PySem PySem.Spec PyProof.Rows L2
/-- the module's name x is a def -/
structure FnV (K : PySem.W.Frag) (mg : Str → Option Value) (x : Str) : Prop where
  ex : ∃ f : Addr, mg x = some (.ref f) ∧ FnAt K x f
theorem FnV.g {K : PySem.W.Frag} {mg : Str → Option Value} {x : Str} (v : FnV K mg x) : GVal K mg x (fnD x) :=
  let ⟨f, h1, h2⟩ := v.ex
  ⟨f, h1, fun _ => .fn h2⟩
/-- what a value that is called computes -/
def fnOf (tbl : List (Str × MFX)) : Option (Option Rv) → Option MFX
  | some (some (.dat (.dict [(.none, .str nm)]))) => tbl.lookup nm
  | _ => none
def mCallL (tbl : List (Str × MFX)) (n i : Nat) (fa : MA) : MR := fun ρ cs => (fnOf tbl ρ[i]?).bind fun m => mCallX n m fa ρ cs
section
variable {X : Cx}
/-- one def of a table, of n parameters -/
structure Ent (X : Cx) (k n : Nat) (x : Str) (m : MFX) : Prop where
  ex : ∃ (f : Addr) (fd : FuncData) (ps : List Str), FnX X.prog X.w X.K X.mg X.base k f fd ps m ∧ PySem.W.keepIn X.K (.ref f) = true ∧ Binds X.K fd ps [] ∧ ps.length = n ∧ FnAt X.K x f
theorem ent_of {k j n : Nat} {x : Str} {st : Stmt} {ps : List Str} {m : MFX} (C : CalX X.prog X.w X.K X.mg X.base j x st ps m) (v : FnV X.K X.mg x) (hj : j ≤ k) (hn : ps.length = n) : Ent X k n x m := by
  obtain ⟨f, fd, F, G, hm, hb⟩ := C.ex
  obtain ⟨f', h1, h2⟩ := v.ex
  have e := hm.symm.trans h1
  cases e
  exact ⟨f, fd, ps, G.mono hj, F.kp, hb, hn, h2⟩
def Tbl (X : Cx) (k n : Nat) (tbl : List (Str × MFX)) : Prop := ∀ p ∈ tbl, Ent X k n p.1 p.2
theorem tbl_nil {k n : Nat} : Tbl X k n [] := fun _ h => nomatch h
theorem tbl_cons {k n : Nat} {x : Str} {m : MFX} {tbl : List (Str × MFX)} (h : Ent X k n x m) (t : Tbl X k n tbl) : Tbl X k n ((x, m) :: tbl) := fun p hp => by
  rcases List.mem_cons.mp hp with rfl | hp
  · exact h
  · exact t p hp
theorem lookup_mem {tbl : List (Str × MFX)} {nm : Str} {m : MFX} (h : tbl.lookup nm = some m) : (nm, m) ∈ tbl := by
  induction tbl with
  | nil => cases h
  | cons p r ih =>
    rw [List.lookup_cons] at h
    cases q : nm == p.1 with
    | true =>
      rw [q] at h
      cases h
      have : nm = p.1 := beq_iff_eq.mp q
      rw [this]
      exact List.mem_cons_self ..
    | false =>
      rw [q] at h
      exact List.mem_cons_of_mem _ (ih h)
theorem xr_callL {k n i : Nat} {tbl : List (Str × MFX)} {x : Str} {e : Expr} {es : List Expr} {fa : MA} {p pos : Pos} (T : Tbl X k n tbl) (hr : Room k X.A) (rm : Rm X.nox) (hi : X.N[i]? = some x) (hv : Vis X.env.scope x) (ha : XA X.nox fa (e :: es))
    (hd : (x == ("__debug__" : Str)) = false := by decide) (hcd : (x == ("__classdict__" : Str)) = false := by decide)
    (he : starEach (e :: es) X.env = (false, eval e X.env) :: starEach es X.env := by rfl) (hpl : (backTo pos (starEach es X.env)).any (·.1) = false := by rfl) : XR X (mCallL tbl n i fa) (.Call (.Name x p) (e :: es) [] pos) := fun W tk => by
  refine ⟨fun pins s σ H Q I ⟨ρ, O, cs, y, e0, en, w, pq⟩ => ?_⟩
  obtain ⟨m, h0, e0⟩ := Option.bind_eq_some_iff.mp e0
  obtain ⟨⟨rs, cs1⟩, h1, h2⟩ := Option.bind_eq_some_iff.mp e0
  obtain ⟨hl, em⟩ := ite_none h2
  unfold fnOf at h0
  split at h0
  · rename_i nm hq
    obtain ⟨v, q1, q2⟩ := en.slot i _ hq
    obtain ⟨f, rfl, fat⟩ : ∃ f, v = .ref f ∧ FnAt X.K nm f := by
      cases (show Rp X.K (DL.hd O H) v (.dict [(.none, .str nm)]) from q2) with
      | fn q => exact ⟨_, rfl, q⟩
      | @dct _ _ kvs _ q e r =>
        exfalso
        cases kvs with
        | nil => cases e
        | cons p r' =>
          obtain ⟨k, v⟩ := p
          simp at e
          cases k <;> cases e.1
    obtain ⟨f', fd, ps, F, hk, hb, hn, fat'⟩ := T (nm, m) (lookup_mem h0)
    have ef : f' = f := by
      have := fat'.1.symm.trans fat.1
      cases this
      rfl
    subst ef
    refine wpAny_Call_Name_kw ?_
    refine thn ((pe_var hi hv hd hcd).run pins s σ H (fun v H1 => v = .ref f' ∧ H1 = H) I ⟨_, q1, rfl, rfl⟩) fun u s0 hu => ?_
    obtain ⟨v', H0, I0, rv', e1, e2⟩ := hu
    subst e1 e2
    cases (show u = Value.ref f' from rv')
    have ha' : PA X (e :: es) (tXA X.K fa) := PA.nox' ha
    have hrun := ha'.run pos pins s0 σ H0 (ArgP X.K O H0 cs1 rs) I0 ⟨ρ, O, cs, rs, cs1, h1, en, w, fun vs H' c w' ra => ⟨c, w', ra⟩⟩
    refine PySem.W.callWith_K (h₀ := X.base) I0.ok.mod.kin hk (thn hrun fun us s1 hus => ?_) he hpl
    obtain ⟨vs, H1, I1, rv, c1, w1, ra⟩ := hus
    refine ⟨I1.kIn, ?_⟩
    have hb' := hb s1 us I1.kIn (by rw [List.append_nil, hn, ← hl, ← rv.length, ← ra.length])
    rw [List.append_nil] at hb'
    exact callX_end tk F hr rm.gd rm.nd I1 hb' rv (by rw [hn]; exact hl) w1 ra em (pq.step c1 w1)
  · cases h0
theorem wr_callL {k n : Nat} {tbl : List (Str × MFX)} {x : Str} (i : Nat) {e : Expr} {es : List Expr} {fa : MA} {p pos : Pos} (T : Tbl X k n tbl) (hr : Room k X.A) (rm : Rm X.nox) (ha : XA X.nox fa (e :: es)) (hi : X.N[i]? = some x := by rfl) (hv : Vis X.env.scope x := by first | exact Or.inl rfl | exact Or.inr (Or.inl rfl) | exact Or.inr (Or.inr rfl))
    (hd : (x == ("__debug__" : Str)) = false := by decide) (hcd : (x == ("__classdict__" : Str)) = false := by decide)
    (he : starEach (e :: es) X.env = (false, eval e X.env) :: starEach es X.env := by rfl) (hpl : (backTo pos (starEach es X.env)).any (·.1) = false := by rfl) : XR X (mCallL tbl n i fa) (.Call (.Name x p) (e :: es) [] pos) :=
  xr_callL T hr rm hi hv ha hd hcd he hpl
theorem Rm.w (rm : Rm X) (xe : Value → Shared → Prop) : Rm (X.wish xe).nox := ⟨rm.hd, rm.un, rm.gd, rm.calm, rm.nd⟩
/-- a call that raises nothing, plainly -/
def mPl (f : MR) : ME := fun ρ cs => (f ρ cs).bind fun x => match x with
  | .ok r cs' => some (r, cs')
  | .ex _ _ _ => none
theorem xe_pl {f : MR} {e : Expr} (h : ∀ xe, XR (X.wish xe) f e) : XE X (mPl f) e := by
  refine ⟨fun pins s σ H Q I ⟨ρ, O, cs, r, cs', e0, en, w, p⟩ => ?_⟩
  obtain ⟨y, h1, h2⟩ := Option.bind_eq_some_iff.mp e0
  cases y with
  | ex nm d cs1 => cases h2
  | ok r1 cs1 =>
    cases h2
    have hh := h (fun _ _ => False) (fun _ _ _ _ => False) (fun u s' ⟨_, _, _, _, _, _, _, _, _, _, _, _, _, _, _, _, z⟩ => z.elim)
    refine wpAny_mono (hh.run pins s σ H Q (I.wish _) ⟨ρ, O, cs, _, h1, en, w, p⟩) (fun _ _ ⟨v, H', I', r, q⟩ => ⟨v, H', I'.unwish, r, q⟩) fun _ _ z => False.elim z
end
/-- a def that raises nothing, as one of a table -/
def plX (m : MF) : MFX := fun rs cs => (m rs cs).map fun p => .ok p.1 p.2
theorem FnD.toX {P : Program} {w : World} {K : PySem.W.Frag} {mg : Str → Option Value} {base : Heap} {k : Nat} {f : Addr} {fd : FuncData} {ps : List Str} {m : MF} (F : FnD P w K mg base k f fd ps m) : FnX P w K mg base k f fd ps (plX m) :=
  ⟨fun A outer s H args us vs Q E rs O cs x hg hnd hr e0 hb rv hl wd ar em p => by
    obtain ⟨⟨r, cs'⟩, h1, rfl⟩ := Option.map_eq_some_iff.mp em
    refine codeAny_mono (F.run A outer s H args us vs Q rs O cs r cs' hg hnd hr e0 hb rv hl wd ar h1 p) fun res s' hq => ?_
    cases res with
    | error e => exact hq.elim
    | ok fl =>
      cases fl with
      | ret u => exact hq
      | next => exact hq.elim
      | brk => exact hq.elim
      | cont => exact hq.elim⟩
theorem Cal.toX {P : Program} {w : World} {K : PySem.W.Frag} {mg : Str → Option Value} {base : Heap} {k : Nat} {x : Str} {st : Stmt} {ps : List Str} {m : MF} (C : Cal P w K mg base k x st ps m) : CalX P w K mg base k x st ps (plX m) :=
  let ⟨f, fd, F, G, hm, hb⟩ := C.ex
  ⟨f, fd, F, G.toX, hm, hb⟩
/-! running -/
section
variable {ρ : Rho} {cs : Cs} {QR : RX → Prop} {Q : Rv → Cs → Prop}
@[simp] theorem er_mCallL {tbl : List (Str × MFX)} {n i : Nat} {fa : MA} : Er (mCallL tbl n i fa) ρ cs QR ↔ wpd (fnOf tbl ρ[i]?) fun m => Er (mCallX n m fa) ρ cs QR := by
  unfold Er mCallL
  exact wpd_bind
@[simp] theorem fnOf_fn {tbl : List (Str × MFX)} {nm : Str} : fnOf tbl (some (some (.dat (fnD nm)))) = tbl.lookup nm := rfl
@[simp] theorem ev_mPl {f : MR} : Ev (mPl f) ρ cs Q ↔ Er f ρ cs (OkX Q) := by
  unfold Ev Er mPl
  rw [wpd_bindo]
  refine iff_of_eq (congrArg _ (funext fun x => propext ?_))
  cases x <;> exact Iff.rfl
theorem emx_plX {m : MF} {rs : List Rv} : Emx (plX m) rs cs QR ↔ Em m rs cs fun r cs' => QR (.ok r cs') := by
  unfold Emx Em plX
  exact wpo_mapd
end
end DL
/-! RG: repr of data with dicts within. -/
namespace DL
open PySem PySem.Spec PyProof.Rows L2
/-- sys.modules is a dict of the written part -/
structure SysD (K : PySem.W.Frag) : Prop where
  ex : ∃ o, K.lookup sysModules = some o ∧ o.cls = .type "dict"
section
variable {X : Cx} {pins : List (Addr × Obj)} {σ : L2.St} {H : Hp} {s : Shared}
theorem SysD.ne (S : SysD X.K) (I : Inv X pins σ H s) {a : Addr} {o : Obj} {T : String} (h : s.heap.get? a = some o) (hc : o.cls = .type T) (hT : T ≠ "dict") : a ≠ sysModules := by
  obtain ⟨om, h1, h2⟩ := S.ex
  intro e
  subst e
  have := I.kIn _ _ h1
  rw [h] at this
  cases this
  rw [hc] at h2
  cases h2
  exact hT rfl
mutual
theorem Rp.reads2 (I : Inv X pins σ H s) (S : SysD X.K) : ∀ {v : V} {d : D}, Rp X.K H v d → noF d = true → ∀ u : Value, RelV v u → ∃ as, Reads s.heap u d as ∧ sysModules ∉ as
  | _, _, .non, _, u, r => by cases r; exact ⟨_, Reads.none, by simp⟩
  | _, _, .bl b, _, u, r => by cases r; exact ⟨_, Reads.bool b, by simp⟩
  | _, _, .int i, _, u, r => by obtain ⟨t, rfl⟩ := r; exact ⟨_, Reads.int i t, by simp⟩
  | _, _, .str x _, _, u, r => by obtain ⟨t, rfl⟩ := r; exact ⟨_, Reads.str x t, by simp⟩
  | _, _, .lst q a, nf, u, r => by
    cases r
    unfold noF at nf
    obtain ⟨its, rv, ⟨o, n, ho, hc, _, hd⟩, _⟩ := I.list q.sq
    obtain ⟨as, hr, hn⟩ := RpAll.reads2 I S a nf its rv
    refine ⟨_, Reads.list ho hc hd hr, fun z => ?_⟩
    rcases List.mem_cons.mp z with z | z
    · exact S.ne I ho hc (by decide) z.symm
    · exact hn z
  | _, _, .tup q a, nf, u, r => by
    cases r
    unfold noF at nf
    obtain ⟨its, rv, ⟨o, ho, hc, n, hd⟩, _⟩ := I.tuple q
    obtain ⟨as, hr, hn⟩ := RpAll.reads2 I S a nf its rv
    exact ⟨_, Reads.tuple ho hc hd hr, hn⟩
  | _, _, .fn q, nf, _, _ => by unfold noF at nf; cases nf
  | _, _, .dct (a := a) (kvs := kvs) (ds := ds) q e b, nf, u, r => by
    cases r
    unfold noF at nf
    have nf := noFk_snd (Bool.and_eq_true_iff.mp nf).2
    obtain ⟨hz, hS, vs, rk, m⟩ := dk_rd I.hok (.inr ⟨_, q⟩)
    obtain ⟨es, ep, ⟨o, ho, hx, hd⟩, hl, hk⟩ := Heap.DictOf.raw m
    have hlen : kvs.length = vs.length := Paired.length rk
    have rvals : Vals (kvs.map (·.2)) (es.toList.map (·.val)) := by
      have e1 : es.toList.map (·.val) = vs.map (·.2) := by
        apply List.ext_getElem?
        intro i
        rw [List.getElem?_map, List.getElem?_map]
        by_cases hi : i < es.size
        · have hi2 : i < vs.length := by omega
          rw [List.getElem?_eq_getElem (by simpa using hi), List.getElem?_eq_getElem hi2]
          have := (hk i hi vs[i].1 vs[i].2 (List.getElem?_eq_getElem hi2)).2
          simp [this]
        · rw [List.getElem?_eq_none (by simpa using hi), List.getElem?_eq_none (by omega)]; rfl
      rw [e1]
      clear hk e1 hl hd ho hx m hz hS
      clear b e q
      clear hlen
      induction rk with
      | nil => exact .nil
      | cons p _ ih => exact .cons p.2 ih
    obtain ⟨as, h1⟩ := keys_reads (h := s.heap) (kvs := kvs) (us := es.toList.map (·.key)) e (fun i k v h => by
      have hi : i < kvs.length := (List.getElem?_eq_some_iff.mp h).1
      have hi2 : i < es.size := by omega
      have hi3 : i < vs.length := by omega
      have h3 : kvs[i]? = some kvs[i] := List.getElem?_eq_getElem hi
      have key : vs[i].1 = k := by
        have : ∀ {l : List (Key × V)} {m : List (Key × Value)}, KV l m → ∀ (j : Nat) p q, l[j]? = some p → m[j]? = some q → p.1 = q.1 := by
          intro l m r
          induction r with
          | nil => intro j p q h; simp at h
          | cons a _ ih =>
            intro j p q hp hq
            cases j with
            | zero => simp at hp hq; rw [← hp, ← hq]; exact a.1
            | succ j => exact ih j p q (by simpa using hp) (by simpa using hq)
        exact (this rk i _ _ h (List.getElem?_eq_getElem hi3)).symm
      have := (hk i hi2 vs[i].1 vs[i].2 (List.getElem?_eq_getElem hi3)).1
      refine ⟨es[i].key, ?_, ?_⟩
      · rw [List.getElem?_map, List.getElem?_eq_getElem (by simpa using hi2)]; simp
      · rw [← key]; exact this) (by simp; omega)
    obtain ⟨bs, h2, hn⟩ := RpAll.reads2 I S b nf _ rvals
    have ea : as = [] := reads_scal h1 fun d hd => by
      rw [← e] at hd
      obtain ⟨p, _, rfl⟩ := List.mem_map.mp hd
      cases p.1 <;> rfl
    subst ea
    refine ⟨_, Reads.dict ho hx.1 hd h1 h2, fun z => ?_⟩
    rcases List.mem_append.mp z with z | z
    · rcases List.mem_cons.mp z with z | z
      · exact beq_eq_false_iff_ne.mp hS z.symm
      · cases z
    · exact hn z
theorem RpAll.reads2 (I : Inv X pins σ H s) (S : SysD X.K) : ∀ {vs : List V} {ds : List D}, RpAll X.K H vs ds → noFs ds = true → ∀ us : List Value, Vals vs us → ∃ as, ReadsAll s.heap us ds as ∧ sysModules ∉ as
  | _, _, .nil, _, us, r => by cases r; exact ⟨_, ReadsAll.nil, by simp⟩
  | _, _, .cons a b, nf, us, r => by
    unfold noFs at nf
    obtain ⟨n1, n2⟩ := Bool.and_eq_true_iff.mp nf
    cases r with
    | cons r1 r2 =>
      obtain ⟨as, q1, m1⟩ := Rp.reads2 I S a n1 _ r1
      obtain ⟨bs, q2, m2⟩ := RpAll.reads2 I S b n2 _ r2
      exact ⟨_, ReadsAll.cons q1 q2, fun z => (List.mem_append.mp z).elim m1 m2⟩
end
def rG (d : D) : Bool := d.showable && noF d && decide (d.depth ≤ 100) && decide (d.shown.length ≤ sizeLine)
def rReprG (K : PySem.W.Frag) : List V → Hp → VK → Prop := fun xs H Q => ∃ x d, xs = [x] ∧ Rp K H x d ∧ rG d = true ∧ Q (.str d.shown) H
theorem call_reprG (rm : Rm X) (S : SysD X.K) : CallR X (.builtin "repr") (rReprG X.K) := by
  intro pins s σ H xs us Q I r h
  obtain ⟨x, d, rfl, rx, ok, q⟩ := h
  unfold rG at ok
  simp only [Bool.and_eq_true, decide_eq_true_eq] at ok
  obtain ⟨⟨⟨o1, o2⟩, o3⟩, o4⟩ := ok
  have go : ∀ (a : Addr), x = .ref a → wpAny (model X.prog X.w) X.A (call (.builtin "repr") us) (EP X pins σ Q) X.xe s := by
    intro a ea
    subst ea
    obtain ⟨u, rfl, ru⟩ := vals1 r
    obtain ⟨as, rd, hn⟩ := Rp.reads2 I S rx o2 _ ru
    cases ru
    exact repr_of_reads' (h₀ := s.heap) rd o1 (fun _ => hn) rm.gd (by have := rm.un; omega) (fun _ _ e => e) (fun h' u tk k => ⟨.str _, H, I.kept k, ⟨_, rfl⟩, q⟩) o4
  cases rx with
  | non =>
    obtain ⟨u, rfl, ru⟩ := vals1 r
    cases ru
    exact PySem.P.repr_of_none ⟨.str _, H, I.tok _, ⟨_, rfl⟩, q⟩
  | bl b =>
    obtain ⟨u, rfl, ru⟩ := vals1 r
    cases ru
    exact PySem.P.repr_of_bool ⟨.str _, H, I.tok _, ⟨_, rfl⟩, q⟩
  | int i =>
    obtain ⟨u, rfl, t, rfl⟩ := vals1 r
    exact PySem.P.repr_of_int (by simpa [PyData.showable] using o1) ⟨.str _, H, I.tok _, ⟨_, rfl⟩, q⟩
  | str y hz =>
    obtain ⟨u, rfl, t, rfl⟩ := vals1 r
    exact PySem.P.repr_of_str ⟨.str _, H, I.tok _, ⟨_, rfl⟩, q⟩ o4
  | lst _ _ => exact go _ rfl
  | tup _ _ => exact go _ rfl
  | dct _ _ _ => exact go _ rfl
  | fn _ => exact go _ rfl
def dReprG : List D → Option Rv
  | [d] => if rG d = true then some (.dat (.str d.shown)) else none
  | _ => none
theorem reprGS {K : PySem.W.Frag} : CaS K (rReprG K) dReprG := by
  intro O cs H vs ds z Q w hp g p
  match ds, g, hp with
  | [d], g, hp =>
    obtain ⟨x, rfl, sx⟩ := Paired.one hp
    obtain ⟨hz, rfl⟩ := ite_some g
    refine ⟨x, d, rfl, sx.rp, hz, post_str w ?_ p⟩
    unfold rG at hz
    simp only [Bool.and_eq_true, decide_eq_true_eq] at hz
    exact hz.2
theorem xe_reprG {e : Expr} {fa : MA} {p pos : Pos} (rm : Rm X) (S : SysD X.K) (hg : Gl X "repr") (hm : X.mg "repr" = none) (ha : XA X fa [e]) (he : starEach [e] X.env = (false, eval e X.env) :: starEach [] X.env := by rfl) : XE X (mCall dReprG fa) (.Call (.Name "repr" p) [e] [] pos) :=
  xe_callB (call_reprG rm S) reprGS hg hm (by decide +kernel) ha (he := he)
end
theorem repr_okG {d : D} (h : rG d = true) : dReprG [d] = some (.dat (.str d.shown)) := if_pos h
end DL
/-! HX: a Hook that also looks at own exception classes, and at whatever is asked of the written part. -/
namespace HX
open PySem PySem.Spec PyProof.Rows L2 He
abbrev FnI : Type := Option (Str × Str × Arguments × FuncBody × Scope × Addr × List Str × Addr)
def fnI (K : PySem.W.Frag) (x : Str) : FnI := match K.lookup (fAd K (x, some "__init__")) with
  | some ⟨_, _, .func fd, _⟩ => some (fd.name, fd.qualname, fd.params, fd.body, fd.scope, fd.globals, fd.closure.map (·.1), fd.builtins)
  | _ => none
/-- the __init__ of the class x -/
structure IniD where
  x : Str
  qual : Str
  params : Arguments
  body : List Stmt
  scope : Scope
  file : Str
def IniD.val (d : IniD) : FnI := some ("__init__", d.qual, d.params, .stmts d.body, d.scope, mainGlobals, ["__class__"], builtinsNs)
def codB (K : PySem.W.Frag) (file qual : Str) : Value → Bool
  | .ref cda => PySem.W.codeIn K (.ref cda) qual && (match K.lookup cda with
    | some ⟨_, _, .fields vs, _⟩ => (match (vs[2]? : Option Value) with
      | some (.str f _) => file == f
      | _ => false)
    | _ => false)
  | _ => false
def cloB (K : PySem.W.Frag) (D : Addr) : List (Str × Addr) → Bool
  | [p] => (match K.lookup p.2 with
    | some ⟨_, _, .cell (some (.ref E)), _⟩ => decide (E = D)
    | _ => false)
  | _ => false
def nonB : Value → Bool
  | .none => true
  | _ => false
def IniD.ok (K : PySem.W.Frag) (d : IniD) : Bool := match K.lookup (fAd K (d.x, some "__init__")) with
  | some ⟨_, _, .func fd, _⟩ => codB K d.file d.qual fd.code && (cloB K (ga K d.x) fd.closure && (nonB fd.defaults && (nonB fd.kwdefaults && (PySem.W.clsIn K (ga K d.x)).isSome)))
  | _ => false
abbrev AlX : Type := Bool × List FnW × List FnI
def obsX (fa : List Fa) (fn : List DefD) (xs : List (PySem.W.Frag → Bool)) (ini : List IniD) (K : PySem.W.Frag) : AlX := (((fa.all fun f => f.ok K) && fn.all fun d => d.ok K) && (xs.all (fun x => x K) && ini.all fun d => d.ok K), fn.map fun d => fnW K d.at_, ini.map fun d => fnI K d.x)
def valX (fn : List DefD) (ini : List IniD) : AlX := (true, fn.map DefD.val, ini.map IniD.val)
def SaysX (fa : List Fa) (fn : List DefD) (xs : List (PySem.W.Frag → Bool)) (ini : List IniD) (K : PySem.W.Frag) : Prop := obsX fa fn xs ini K = valX fn ini
def asX (g : Addr → Option Obj) (n : Nat) : List Addr := asD g n ++ [cStatics, sysModules]
def obsXG (n : Nat) (fa : List Fa) (fn : List DefD) (xs : List (PySem.W.Frag → Bool)) (ini : List IniD) (g : Addr → Option Obj) : AlX := obsX fa fn xs ini (frG g (asX g n))
def hookX (n : Nat) (fa : List Fa) (fn : List DefD) (xs : List (PySem.W.Frag → Bool)) (ini : List IniD) : PySem.W.Hook where
  α := AlX
  obs := fun s => obsXG n fa fn xs ini s.heap.get?
  val := fun _ => valX fn ini
  says := fun _ h => ∃ K : PySem.W.Frag, K.In h ∧ SaysX fa fn xs ini K
  of := fun _ _ e => ⟨_, frG_in, e⟩
  keeps := fun _ _ _ ⟨K, hK, c⟩ k => ⟨K, PySem.W.Frag.In.keeps hK k, c⟩
theorem obsXG_eq {n : Nat} {fa : List Fa} {fn : List DefD} {xs : List (PySem.W.Frag → Bool)} {ini : List IniD} {g : Addr → Option Obj} {s : Shared} (h : ∀ a, g a = s.heap.get? a) : obsXG n fa fn xs ini g = (hookX n fa fn xs ini).obs s := by
  have e : g = s.heap.get? := funext h
  rw [e] <;> rfl
section
variable {fa : List Fa} {fn : List DefD} {xs : List (PySem.W.Frag → Bool)} {ini : List IniD} {K : PySem.W.Frag}
theorem SaysX.d (c : SaysX fa fn xs ini K) : SaysD fa fn K := by
  have h1 := (ba (show (((fa.all fun f => f.ok K) && fn.all fun d => d.ok K) && (xs.all (fun x => x K) && ini.all fun d => d.ok K)) = true from congrArg (fun z : AlX => z.1) c)).1
  have h2 : fn.map (fun d => fnW K d.at_) = fn.map DefD.val := congrArg (fun z : AlX => z.2.1) c
  show ((fa.all fun f => f.ok K) && fn.all fun d => d.ok K, fn.map fun d => fnW K d.at_) = (true, fn.map DefD.val)
  rw [h1, h2]
theorem SaysX.x (c : SaysX fa fn xs ini K) (i : Nat) {x : PySem.W.Frag → Bool} (h : xs[i]? = some x := by rfl) : x K = true := by
  have h1 := (ba (ba (show (((fa.all fun f => f.ok K) && fn.all fun d => d.ok K) && (xs.all (fun x => x K) && ini.all fun d => d.ok K)) = true from congrArg (fun z : AlX => z.1) c)).2).1
  exact List.all_eq_true.mp h1 x (List.mem_of_getElem? h)
theorem codB_ok {file qual : Str} {v : Value} (h : codB K file qual v = true) : ∃ cda, v = .ref cda ∧ PySem.W.codeIn K (.ref cda) qual = true ∧ ∃ (ccl : Value) (cdd : Option Addr) (vs : Array Value) (ccs : Array (Option Value)) (f : Str) (tf : Tok), K.lookup cda = some ⟨ccl, cdd, .fields vs, ccs⟩ ∧ vs[2]? = some (.str f tf) ∧ (file == f) = true := by
  unfold codB at h
  split at h
  · rename_i cda
    obtain ⟨h1, h2⟩ := ba h
    split at h2
    · rename_i vs sl hl
      split at h2
      · rename_i f tf hv
        exact ⟨_, rfl, h1, _, _, _, _, f, tf, hl, hv, h2⟩
      · cases h2
    · cases h2
  · cases h
theorem cloB_ok {D : Addr} {l : List (Str × Addr)} (h : cloB K D l = true) : ∃ p, l = [p] ∧ ∃ (cl : Value) (cld : Option Addr) (csl : Array (Option Value)), K.lookup p.2 = some ⟨cl, cld, .cell (some (.ref D)), csl⟩ := by
  unfold cloB at h
  split at h
  · rename_i p
    split at h
    · rename_i cl cld E csl hl
      exact ⟨p, rfl, _, _, _, by rw [hl, of_decide_eq_true h]⟩
    · cases h
  · cases h
theorem nonB_ok {v : Value} (h : nonB v = true) : v = .none := by
  cases v <;> first | rfl | cases h
theorem SaysX.txt (c : SaysX fa fn xs ini K) {P : Program} (i : Nat) {d : IniD} (h : ini[i]? = some d) {p1 p2 q1 q2 q3 q4 q5 q6 q7 q8 q9 q10 : Pos} (hp : d.params = SEX.iA p1 p2) (hb : d.body = SEX.iB q1 q2 q3 q4 q5 q6 q7 q8 q9 q10) (hs : d.scope = SEX.iS) (hf : d.file = P.main.file) (hq : (q3.endLine == q5.line) = true)
    (top : (P.main.scope.names.lookup ("super" : Str)).isSome = false) (op : PySem.W.nsIn K cStatics "thirdparty.any" = some none) : SEX.SeTxt P K d.qual (ga K d.x) (fAd K (d.x, some "__init__")) := by
  have h1 := (ba (ba (show (((fa.all fun f => f.ok K) && fn.all fun d => d.ok K) && (xs.all (fun x => x K) && ini.all fun d => d.ok K)) = true from congrArg (fun z : AlX => z.1) c)).2).2
  have h2 := List.all_eq_true.mp h1 d (List.mem_of_getElem? h)
  have e : ini.map (fun d => fnI K d.x) = ini.map IniD.val := congrArg (fun z : AlX => z.2.2) c
  have e2 : (ini.map fun d => fnI K d.x)[i]? = (ini.map IniD.val)[i]? := by rw [e]
  rw [List.getElem?_map, List.getElem?_map, h] at e2
  have e3 : fnI K d.x = d.val := Option.some.inj e2
  unfold IniD.ok at h2
  unfold fnI at e3
  cases q : K.lookup (fAd K (d.x, some "__init__")) with
  | none =>
    rw [q] at h2
    cases h2
  | some o =>
    obtain ⟨oc, od, dt, osl⟩ := o
    rw [q] at h2 e3
    cases dt with
    | func fd =>
      obtain ⟨n1, n2, n3, n4, n5, n6, n7, n8, n9, n10, n11, n12, n13, n14, n15⟩ := fd
      have e4 : (some (n1, n2, n3, n4, n5, n6, n7.map (·.1), n15) : FnI) = (some (("__init__" : Str), d.qual, d.params, .stmts d.body, d.scope, mainGlobals, [("__class__" : Str)], builtinsNs) : FnI) := e3
      simp only [Option.some.injEq, Prod.mk.injEq] at e4
      obtain ⟨g1, g2, g3, g4, g5, g6, g7, g8⟩ := e4
      have h3 : (codB K d.file d.qual n13 && (cloB K (ga K d.x) n7 && (nonB n8 && (nonB n9 && (PySem.W.clsIn K (ga K d.x)).isSome)))) = true := h2
      obtain ⟨k1, k2⟩ := ba h3
      obtain ⟨k3, k4⟩ := ba k2
      obtain ⟨k5, k6⟩ := ba k4
      obtain ⟨k7, k8⟩ := ba k6
      obtain ⟨cda, rfl, hc, hfile⟩ := codB_ok k1
      obtain ⟨p, rfl, hcl⟩ := cloB_ok k3
      obtain ⟨y, cc⟩ := p
      have hy : y = "__class__" := by simpa using g7
      subst hy
      rw [nonB_ok k5, nonB_ok k7] at q
      rw [hp] at g3
      rw [hb] at g4
      rw [hs] at g5
      rw [hf] at hfile
      subst g1 g2 g3 g4 g5 g6 g8
      exact ⟨⟨oc, od, n10, n11, n12, cda, cc, n14, osl, p1, p2, q1, q2, q3, q4, q5, q6, q7, q8, q9, q10, hq, q, hc, hfile, hcl⟩, k8, top, op⟩
    | _ => cases h2
end
/-! ### facts of classes -/
section
variable {K : PySem.W.Frag}
def excB (K : PySem.W.Frag) (D : Addr) : Bool := eqO (PySem.W.findIn K (.ref D) "__getattribute__") (some (some (.builtin "BaseException.__getattribute__"))) && (eqO (PySem.W.findIn K (.ref D) "__getattr__") (some none) && (decide (PySem.W.subIn K (.ref D) (.type "BaseException") = some true) && (PySem.W.hasDictIn K D && (eqO (PySem.W.findIn K (.ref D) "__class__") (some (some (.builtin "object.__class__"))) && (eqO (PySem.W.specialIn K (.builtin "object.__class__") "__get__") (some (some (.builtin "getset_descriptor.__get__"))) && (decide (PySem.W.takesIn K (.builtin "object.__class__") = some true) && decide (PySem.W.mroIn K D (.type "object") = some true)))))))
theorem excB_ok {D : Addr} (h : excB K D = true) : ExcC K D := by
  obtain ⟨h1, h⟩ := ba h
  obtain ⟨h2, h⟩ := ba h
  obtain ⟨h3, h⟩ := ba h
  obtain ⟨h4, h⟩ := ba h
  obtain ⟨h5, h⟩ := ba h
  obtain ⟨h6, h⟩ := ba h
  obtain ⟨h7, h⟩ := ba h
  exact ⟨eqO_ok h1, eqO_ok h2, of_decide_eq_true h3, h4, eqO_ok h5, eqO_ok h6, of_decide_eq_true h7, of_decide_eq_true h⟩
open DL
def cardB (nm : Str) (K : PySem.W.Frag) : Bool := xfB K (ga K nm) && (excB K (ga K nm) && ((PySem.W.clsIn K (ga K nm)).isSome && (eqO (PySem.W.findIn K (.ref (ga K nm)) "value") (some none) && ((CLs K).all (fun q => decide (PySem.W.kitOne K (.ref (ga K nm)) (.ref q.2) = some (subN nm q.1))) &&
  (CLs K).all (fun q => !decide (PySem.W.subIn K (.ref q.2) (.type "BaseException") = some true) || decide (PySem.W.exmOne K (.ref (ga K nm)) (.ref q.2) = some (subN nm q.1)))))))
theorem cardB_ok {nm : Str} (h : cardB nm K = true) : Card K nm (ga K nm) := by
  obtain ⟨h1, h⟩ := ba h
  obtain ⟨h2, h⟩ := ba h
  obtain ⟨h3, h⟩ := ba h
  obtain ⟨h4, h⟩ := ba h
  obtain ⟨h5, h6⟩ := ba h
  refine ⟨⟨xfB_ok h1, excB_ok h2, h3⟩, eqO_ok h4, fun q hq => of_decide_eq_true (List.all_eq_true.mp h5 q hq), fun q hq hb => ?_⟩
  have := List.all_eq_true.mp h6 q hq
  rw [hb] at this
  simpa using this
/-- nm is a class of the module; no plain value is of it -/
def clsB (nm : Str) (K : PySem.W.Frag) : Bool := (CLs K).any (fun q => decide (q.1 = nm) && decide (q.2 = ga K nm)) && (["NoneType", "bool", "int", "str", "list", "tuple", "dict", "function"] : List String).all fun T => decide (PySem.W.kitOne K (.type T) (.ref (ga K nm)) = some false)
theorem clsB_ok {h : Heap} {mg : Str → Option Value} {nm : Str} (X : K.In h) (G : h.Ns mainGlobals mg) (g : (Fa.glo nm).ok K = true) (c : clsB nm K = true) : ClsOf K mg nm (ga K nm) := by
  obtain ⟨h1, h2⟩ := ba c
  obtain ⟨q, hq, h3⟩ := List.any_eq_true.mp h1
  obtain ⟨h4, h5⟩ := ba h3
  have e : q = (nm, ga K nm) := Prod.ext (of_decide_eq_true h4) (of_decide_eq_true h5)
  exact ⟨glo_ok X G g, e ▸ hq, fun T hT => of_decide_eq_true (List.all_eq_true.mp h2 T hT)⟩
def sysB (K : PySem.W.Frag) : Bool := match K.lookup sysModules with
  | some ⟨.type c, _, _, _⟩ => decide (c = "dict")
  | _ => false
theorem sysB_ok (h : sysB K = true) : SysD K := by
  unfold sysB at h
  split at h
  · rename_i c dd dt sl hl
    exact ⟨_, hl, by rw [of_decide_eq_true h]⟩
  · cases h
/-- x is a def of the module -/
def fnvB (x : Str) (K : PySem.W.Frag) : Bool := eqO (PySem.W.nsIn K mainGlobals x) (some (some (.ref (ga K x)))) && decide (PySem.W.typeIn K (.ref (ga K x)) = some (.type "function"))
theorem fnv_of {h : Heap} {mg : Str → Option Value} {x : Str} (X : K.In h) (G : h.Ns mainGlobals mg) (g : (Fa.glo x).ok K = true) (c : fnvB x K = true) : FnV K mg x := by
  obtain ⟨h1, h2⟩ := ba c
  exact ⟨ga K x, glo_ok X G g, eqO_ok h1, of_decide_eq_true h2⟩
def baseB (nm : Str) (K : PySem.W.Frag) : Bool := decide (PySem.W.subIn K (.ref (ga K nm)) (.type "BaseException") = some true)
theorem baseB_ok {nm : Str} (h : baseB nm K = true) : PySem.W.subIn K (.ref (ga K nm)) (.type "BaseException") = some true := of_decide_eq_true h
/-- a class that is raised -/
def slotB : List (Option Value) → Bool
  | [_, _, _, _, some (.builtin i), _] => decide (i = "ValueError.__new__")
  | _ => false
def shapeB (K : PySem.W.Frag) (C : Addr) : Bool := match K.lookup C with
  | some ⟨.type t, _, .cls ⟨_, _, .ref m :: bm, _, _, true, _, _, _, _, false⟩, sl⟩ => decide (t = "type") && (decide (m = C) && (PySem.HandSPX.refsVE bm && slotB sl.toList))
  | _ => false
theorem slotB_ok {l : List (Option Value)} (h : slotB l = true) : ∃ k0 k1 k2 k3 k5, l = [k0, k1, k2, k3, some (.builtin "ValueError.__new__"), k5] := by
  unfold slotB at h
  split at h
  · rename_i k0 k1 k2 k3 i k5
    rw [of_decide_eq_true h]
    exact ⟨_, _, _, _, _, rfl⟩
  · cases h
theorem shapeB_ok {C : Addr} (h : shapeB K C = true) : ∃ nm q N bs bm sn sub ab col dd k0 k1 k2 k3 k5, K.lookup C = some (excClassObj nm q C N bs bm true sn sub ab col dd k0 k1 k2 k3 k5 "ValueError.__new__") ∧ PySem.HandSPX.refsVE bm = true := by
  unfold shapeB at h
  split at h
  · rename_i t dd nm bs m bm N q sn sub ab col sl hl
    obtain ⟨h1, h2⟩ := ba h
    obtain ⟨h3, h4⟩ := ba h2
    obtain ⟨h5, h6⟩ := ba h4
    have e1 := of_decide_eq_true h1
    have e2 := of_decide_eq_true h3
    subst e1 e2
    obtain ⟨k0, k1, k2, k3, k5, e3⟩ := slotB_ok h6
    refine ⟨nm, q, N, bs, bm, sn, sub, ab, col, dd, k0, k1, k2, k3, k5, ?_, h5⟩
    rw [hl]
    have e4 : sl = #[k0, k1, k2, k3, some (.builtin "ValueError.__new__"), k5] := by
      apply Array.toList_inj.mp
      rw [e3]
    rw [e4]
  · cases h
def raB (top nm : Str) (K : PySem.W.Frag) : Bool := shapeB K (ga K nm) && (eqO (PySem.W.findIn K (.ref (ga K nm)) "__setattr__") (some (some (.builtin "object.__setattr__"))) && (eqO (PySem.W.findIn K (.ref (ga K nm)) "value") (some none) &&
  (eqO (PySem.W.findIn K (.ref (ga K nm)) "__init__") (some (some (.ref (fAd K (top, some "__init__"))))) && (decide (PySem.W.typeIn K (.ref (fAd K (top, some "__init__"))) = some (.type "function")) && (PySem.W.keepIn K (.ref (ga K nm)) && (decide (PySem.W.subIn K (.ref (ga K nm)) (.type "BaseException") = some true) &&
  (decide (PySem.W.subIn K (.ref (ga K nm)) (.type "ValueError") = some true) && (decide (PySem.W.typeIn K (.ref (ga K nm)) = some (.type "type")) && (decide (PySem.W.mroIn K (ga K nm) (.ref (ga K top)) = some true) && (eqO (PySem.W.ks_superIn K (ga K nm) (ga K top) "__init__") (some (some (.builtin "ValueError.__init__"))) && cardB nm K))))))))))
theorem raB_ok {top nm : Str} (h : raB top nm K = true) : SEX.SeCls K (ga K top) (fAd K (top, some "__init__")) (ga K nm) ∧ Card K nm (ga K nm) := by
  obtain ⟨h1, h⟩ := ba h
  obtain ⟨h2, h⟩ := ba h
  obtain ⟨h3, h⟩ := ba h
  obtain ⟨h4, h⟩ := ba h
  obtain ⟨h5, h⟩ := ba h
  obtain ⟨h6, h⟩ := ba h
  obtain ⟨h7, h⟩ := ba h
  obtain ⟨h8, h⟩ := ba h
  obtain ⟨h9, h⟩ := ba h
  obtain ⟨h10, h⟩ := ba h
  obtain ⟨h11, h12⟩ := ba h
  exact ⟨⟨shapeB_ok h1, eqO_ok h2, eqO_ok h3, eqO_ok h4, of_decide_eq_true h5, h6, of_decide_eq_true h7, of_decide_eq_true h8, of_decide_eq_true h9, of_decide_eq_true h10, eqO_ok h11⟩, cardB_ok h12⟩
theorem raC_of {P : Program} {h : Heap} {mg : Str → Option Value} {top nm qual : Str} (X : K.In h) (G : h.Ns mainGlobals mg) (T : SEX.SeTxt P K qual (ga K top) (fAd K (top, some "__init__"))) (hs : mg "super" = none) (g : (Fa.glo nm).ok K = true) (c : raB top nm K = true) : RaC P K mg nm :=
  ⟨ga K nm, ga K top, fAd K (top, some "__init__"), qual, T, (raB_ok c).1, glo_ok X G g, hs, (raB_ok c).2⟩
def opB (K : PySem.W.Frag) : Bool := eqO (PySem.W.nsIn K cStatics "thirdparty.any") (some none)
theorem opB_ok (h : opB K = true) : PySem.W.nsIn K cStatics "thirdparty.any" = some none := eqO_ok h
/-- a constant tuple of plain values -/
theorem gval_of {h : Heap} {mg : Str → Option Value} {x : Str} {vs : List Dv} {ds : List D} (X : K.In h) (G : h.Ns mainGlobals mg) (g : (Fa.glo x).ok K = true) (c : tupB K x vs = true) (r : ∀ H, RpAll K H (vs.map (Dv.v K)) ds) : GVal K mg x (.tuple ds) :=
  ⟨ga K x, glo_ok X G g, fun H => .tup (tupB_ok c H) (r H)⟩
end
end HX
namespace My
open PySem PySem.Spec PyProof.Rows L2 DL
def b__law_hash : MS :=
  (sSeq (sSet 2 (mB dMod (mCall dInt (aCons (mB dAdd (mB dAdd (mB dAdd (mB dMul (xVar 0) (xC (.int 1140671))) (mB dMul (mB dMul (xC (.int 27644437)) (xVar 1)) (xVar 1))) (mB dMul (xC (.int 131)) (xVar 1))) (xC (.int 19))) aNil)) (xC (.int 2147483629))))
  (sSeq (sSet 2 (mB dMod (mCall dInt (aCons (mB dAdd (mB dAdd (mB dMul (xVar 2) (xVar 2)) (mB dMul (xC (.int 62089)) (xVar 1))) (xC (.int 32416187))) aNil)) (xC (.int 2147483587))))
  (sRet (mB dMod (mCall dInt (aCons (mB dMul (xVar 2) (xC (.int 48271))) aNil)) (xC (.int 2147483647))))))
def m__law_hash : MF := fnM 3 b__law_hash
def b__law_cell : MS :=
  (sSeq (sIf (mTB (mB dLt (xVar 1) (mCall dLen (aCons (xVar 0) aNil)))) (sRet (mB dIx (xVar 0) (xVar 1))) sNil)
  (sRet (mB dMod (mCall dSum (aCons (mSl (xVar 0) oNone (oSome (xC (.int 1)))) aNil)) (xC (.int 1000003)))))
def m__law_cell : MF := fnM 2 b__law_cell
def b__law_generator : MS :=
  (sSeq (sSet 2 (mCallF 2 m__law_cell (aCons (xVar 0) (aCons (xVar 1) aNil))))
  (sRet (xLst (aCons (mB dMod (mCall dInt (aCons (mCall dMax2 (aCons (mB dSub (xVar 2) (mB dPow (xC (.int 10)) (xC (.int 18)))) (aCons (xC (.int 0)) aNil))) aNil)) (mB dPow (mB dPow (xC (.int 10)) (xC (.int 60))) (xC (.int 10)))) (aCons (mB dMod (mCall dInt (aCons (xVar 2) aNil)) (xC (.int 2147483647))) (aCons (mB dMul (xC (.int 1000)) (xVar 1)) aNil))))))
def m__law_generator : MF := fnM 3 b__law_generator
def b__law_random : MS :=
  (sSeq (sIf (mTB (mB dGt (mB dIx (xVar 0) (xC (.int 0))) (xC (.int 0)))) (sSeq (sSet 2 (mB dMod (mCall dInt (aCons (mB dIx (xVar 0) (xC (.int 0))) aNil)) (xVar 1)))
  (sSeq (sPut 0 (xC (.int 0)) (mB dDiv (mB dIx (xVar 0) (xC (.int 0))) (xVar 1)))
  (sRet (xVar 2)))) sNil)
  (sSeq (sSet 2 (xC (.int 0)))
  (sSeq (sFor (iRg1 (aCons (mB dAdd (xC (.int 1)) (mB dDiv (mU dBits (xVar 1)) (xC (.int 30)))) aNil)) (gNm 3) (sSeq (sPut 0 (xC (.int 2)) (mB dAdd (mB dIx (xVar 0) (xC (.int 2))) (xC (.int 1))))
  (sSet 2 (mB dAdd (mB dMul (xVar 2) (xC (.int 2147483587))) (mCallF 2 m__law_hash (aCons (mB dIx (xVar 0) (xC (.int 1))) (aCons (mB dIx (xVar 0) (xC (.int 2))) aNil)))))))
  (sRet (mB dMod (mCall dInt (aCons (xVar 2) aNil)) (xVar 1))))))
def m__law_random : MF := fnM 4 b__law_random
def b__law_pick : MS :=
  (sRet (mB dIx (xVar 1) (mCallF 2 m__law_random (aCons (xVar 0) (aCons (mCall dLen (aCons (xVar 1) aNil)) aNil)))))
def m__law_pick : MF := fnM 2 b__law_pick
end My
namespace My
open PySem PySem.Spec PyProof.Rows L2 DL
theorem log2_le {n a : Nat} (h : n < 2 ^ a) : n.log2 ≤ a := by
  by_cases h0 : n = 0
  · subst h0; exact Nat.zero_le _
  · exact Nat.le_of_lt ((Nat.log2_lt h0).mpr h)
theorem cml {i j : Int} (a b : Nat) (h1 : i.natAbs < 2 ^ a) (h2 : j.natAbs < 2 ^ b) (h : a + b < 100000000 := by decide) : CMl i j := by
  have := log2_le h1
  have := log2_le h2
  show _ + _ < _
  omega
theorem lg_mul {i j : Int} {a b : Nat} (h1 : i.natAbs < 2 ^ a) (h2 : j.natAbs < 2 ^ b) : (i * j).natAbs < 2 ^ (a + b) := by
  rw [Int.natAbs_mul, Nat.pow_add]
  exact Nat.mul_lt_mul'' h1 h2
theorem fmod_b {x m : Int} (hm : 0 < m) : 0 ≤ x.fmod m ∧ x.fmod m < m := ⟨Int.fmod_nonneg_of_pos x hm, Int.fmod_lt_of_pos x hm⟩
theorem abs_lt {x : Int} {a : Nat} (h0 : 0 ≤ x) (h1 : x < 2 ^ a) : x.natAbs < 2 ^ a := by
  have e : ((2 ^ a : Nat) : Int) = (2 : Int) ^ a := by simp
  omega
theorem hash_em {s i : Int} {cs : Cs} {Q : Rv → Cs → Prop} (hs : s.natAbs < 2 ^ 100) (hi : i.natAbs < 2 ^ 100) (h : ∀ z : Int, 0 ≤ z → z < 2147483647 → Q (di z) cs) : Em m__law_hash [.dat (.int s), .dat (.int i)] cs Q := by
  unfold m__law_hash
  rw [em_fnM]
  simp [b__law_hash, dMul, dAdd, dMod, dI, dInt]
  generalize e1 : (s * 1140671 + 27644437 * i * i + 131 * i + 19).fmod 2147483629 = x
  have b1 := fmod_b (x := s * 1140671 + 27644437 * i * i + 131 * i + 19) (m := 2147483629) (by decide)
  rw [e1] at b1
  have x1 : x.natAbs < 2 ^ 32 := abs_lt b1.1 (by omega)
  generalize e2 : (x * x + 62089 * i + 32416187).fmod 2147483587 = y
  have b2 := fmod_b (x := x * x + 62089 * i + 32416187) (m := 2147483587) (by decide)
  rw [e2] at b2
  have y1 : y.natAbs < 2 ^ 32 := abs_lt b2.1 (by omega)
  have b3 := fmod_b (x := y * 48271) (m := 2147483647) (by decide)
  exact ⟨cml 100 32 hs (by decide), cml 32 100 (by decide) hi, cml 132 100 (lg_mul (a := 32) (b := 100) (by decide) hi) hi, cml 32 100 (by decide) hi, cml 32 32 x1 x1, cml 32 100 (by decide) hi, cml 32 32 y1 (by decide), h _ b3.1 b3.2⟩
/-- a generator's cell -/
structure Gs (b : Int) (c : List D) : Prop where
  ex : ∃ g0 g1 g2 : Int, c = [.int g0, .int g1, .int g2] ∧ 0 ≤ g0 ∧ g0 < 10 ^ 600 ∧ 0 ≤ g1 ∧ g1 < 2147483647 ∧ 0 ≤ g2 ∧ g2 ≤ b
theorem Gs.mono {b b' : Int} {c : List D} (g : Gs b c) (h : b ≤ b') : Gs b' c := by
  obtain ⟨g0, g1, g2, e, h0, h1, h2, h3, h4, h5⟩ := g.ex
  exact ⟨g0, g1, g2, e, h0, h1, h2, h3, h4, by omega⟩
theorem ix_own {c : List D} {k : Nat} {cs : Cs} {i : Int} {Q : Rv → Cs → Prop} (h : cs[k]? = some (some c)) : O2 dIx (.own k) (.dat (.int i)) cs Q ↔ wpd (dIx (.list c) (.int i)) fun z => Q z cs := o2_od h
theorem at3_0 {α : Type} {a b c : α} : atI [a, b, c] 0 = some a := rfl
theorem at3_1 {α : Type} {a b c : α} : atI [a, b, c] 1 = some b := rfl
theorem at3_2 {α : Type} {a b c : α} : atI [a, b, c] 2 = some c := rfl
theorem ixN_nat {n : Nat} {i : Int} (h0 : 0 ≤ i) (h1 : i < n) : ixN n i = some i.toNat := by
  unfold ixN
  rw [if_pos h0, if_pos h1]
theorem atI_nat {α : Type} {xs : List α} {i : Int} (h0 : 0 ≤ i) (h1 : i < xs.length) : atI xs i = some (xs[i.toNat]'(by omega)) := by
  unfold atI
  rw [ixN_nat h0 h1]
  show xs[i.toNat]? = _
  rw [List.getElem?_eq_getElem]
theorem random_em {k : Nat} {n b : Int} {cs : Cs} {c : List D} {Q : Rv → Cs → Prop} (hc : cs[k]? = some (some c)) (hg : Gs b c) (hb : b ≤ 10 ^ 20) (hn : 0 < n) (hn2 : n < 2 ^ 2900) (h : ∀ (r : Int) (c' : List D), 0 ≤ r → r < n → Gs (b + 100) c' → Q (di r) (cs.set k (some c'))) : Em m__law_random [.own k, .dat (.int n)] cs Q := by
  obtain ⟨g0, g1, g2, rfl, h0, h1, h2, h3, h4, h5⟩ := hg.ex
  have hk : k < cs.length := (List.getElem?_eq_some_iff.mp hc).1
  unfold m__law_random
  rw [em_fnM]
  simp [b__law_random, ix_own hc, dIx, at3_0, dGt, dCmp]
  by_cases hg0 : 0 < g0
  · rw [if_pos hg0]
    have dv : CDv g0 n := ⟨by omega, by have := log2_le (abs_lt (Int.le_of_lt hn) hn2); omega⟩
    have q0 : 0 ≤ g0.fdiv n := Int.fdiv_nonneg h0 (Int.le_of_lt hn)
    have q1 : g0.fdiv n ≤ g0 := by
      rw [Int.fdiv_eq_ediv_of_nonneg g0 (Int.le_of_lt hn)]
      exact Int.ediv_le_self n h0
    have fb := fmod_b (x := g0) hn
    have e3 : ixN 3 0 = some 0 := rfl
    simp [dInt, dMod, dI, ix_own hc, dIx, at3_0, dDiv, hc, dv, e3, show n ≠ 0 by omega, List.take_of_length_le]
    exact h _ _ fb.1 fb.2 ⟨g0.fdiv n, g1, g2, rfl, q0, by omega, h2, h3, h4, by omega⟩
  · rw [if_neg hg0]
    have bz : Builtin.Int.intBits n ≤ 2900 := PyProof.Rows.intBits_le (abs_lt (Int.le_of_lt hn) hn2)
    have dv : ∀ x : Int, CDv x 30 := fun x => ⟨by decide, by decide⟩
    have eq : ((Builtin.Int.intBits n : Int)).fdiv 30 = ((Builtin.Int.intBits n / 30 : Nat) : Int) := by
      rw [Int.fdiv_eq_ediv_of_nonneg _ (by decide)]
      rfl
    generalize ht : Builtin.Int.intBits n / 30 = t at eq
    have ht2 : t ≤ 97 := by omega
    simp [dBits, dDiv, dI, dv, dAdd, eq]
    refine ⟨by constructor <;> omega, ?_⟩
    have ej : ((1 : Int) + (t : Int)).toNat = t + 1 := by omega
    rw [ej]
    refine el_inv (fun i ρ cs1 => ∃ (dr : Int) (x3 : Option Rv), ρ = [some (Rv.own k), some (Rv.dat (PyData.int n)), some (Rv.dat (PyData.int dr)), x3] ∧ cs1 = cs.set k (some [.int g0, .int g1, .int (g2 + i)]) ∧ 0 ≤ dr ∧ dr < 2 ^ (32 * (i + 1))) (k := 0) ⟨0, none, rfl, ?_, Int.le_refl _, by decide⟩ ?_ ?_
    · apply List.ext_getElem?
      intro j
      by_cases hj : k = j
      · subst hj
        rw [List.getElem?_set_self hk, hc]
        simp
      · rw [List.getElem?_set_ne hj]
    · rintro i d ρ cs1 hi ⟨dr, x3, rfl, rfl, d0, d1⟩
      simp only [Nat.zero_add] at d1 ⊢
      have hi2 : i < t + 1 := by
        have := (List.getElem?_eq_some_iff.mp hi).1
        simpa [rngD] using this
      have hcs : ∀ g : List D, (cs.set k (some g))[k]? = some (some g) := fun g => List.getElem?_set_self hk
      have e2 : ixN 3 2 = some 2 := rfl
      have ga : (g2 + (i : Int) + 1).natAbs < 2 ^ 100 := abs_lt (by omega) (by omega)
      simp [ix_own (hcs _), dIx, at3_1, at3_2, dAdd, hcs, e2, dMul]
      have P : (2 : Int) ^ (32 * (i + 1 + 1)) = 2 ^ (32 * (i + 1)) * 4294967296 := by
        rw [show 32 * (i + 1 + 1) = 32 * (i + 1) + 32 by omega, Int.pow_add]
        rfl
      refine ⟨cml (32 * (i + 1)) 32 (abs_lt d0 d1) (by decide) (by omega), ?_⟩
      refine hash_em (abs_lt h2 (by omega)) ga fun z z0 z1 => ?_
      simp [dAdd]
      refine ⟨by rw [Int.add_assoc], by omega, ?_⟩
      rw [P]
      generalize (2 : Int) ^ (32 * (i + 1)) = p at d1 ⊢
      omega
    · rintro ρ cs1 ⟨dr, x3, rfl, rfl, d0, d1⟩
      have fb := fmod_b (x := dr) hn
      simp [dInt, dMod, dI, show n ≠ 0 by omega]
      rw [List.take_of_length_le (by simp)]
      refine h _ _ fb.1 fb.2 ⟨g0, g1, _, rfl, h0, h1, h2, h3, ?_, ?_⟩
      · simp [rngD]; omega
      · simp [rngD]; omega
theorem pick_em {k : Nat} {b : Int} {cs : Cs} {c ds : List D} {Q : Rv → Cs → Prop} (hc : cs[k]? = some (some c)) (hg : Gs b c) (hb : b ≤ 10 ^ 20) (hn : ds ≠ []) (hn2 : ds.length < 10 ^ 9) (h : ∀ (d : D) (c' : List D), d ∈ ds → Gs (b + 100) c' → Q (.dat d) (cs.set k (some c'))) : Em m__law_pick [.own k, .dat (.list ds)] cs Q := by
  have hl : 0 < ds.length := List.length_pos_iff.mpr hn
  unfold m__law_pick
  rw [em_fnM]
  simp [b__law_pick, dLen]
  refine random_em hc hg hb (by omega) (Int.lt_trans (show (ds.length : Int) < 10 ^ 9 by omega) (by decide)) fun r c' r0 r1 hg' => ?_
  simp [dIx, atI_nat r0 r1]
  rw [List.take_of_length_le (by simp)]
  exact h _ _ (List.getElem_mem _) hg'
theorem pickS_em {k : Nat} {b : Int} {cs : Cs} {c : List D} {x : Str} {Q : Rv → Cs → Prop} (hc : cs[k]? = some (some c)) (hg : Gs b c) (hb : b ≤ 10 ^ 20) (hn : 0 < x.length) (hn2 : x.length < 10 ^ 9) (h : ∀ (y : Nat) (c' : List D), y ∈ x.cps.toList → Gs (b + 100) c' → Q (.dat (.str ⟨#[y]⟩)) (cs.set k (some c'))) : Em m__law_pick [.own k, .dat (.str x)] cs Q := by
  unfold m__law_pick
  rw [em_fnM]
  simp [b__law_pick, dLen]
  refine random_em hc hg hb (by omega) (Int.lt_trans (show (x.length : Int) < 10 ^ 9 by omega) (by decide)) fun r c' r0 r1 hg' => ?_
  have r1' : r < (x.cps.toList.length : Int) := by rw [Array.length_toList]; exact r1
  simp only [o2_dd, dIx, atI_nat r0 r1', wpd_some, Option.map_some, ret_dat, fin_dat]
  rw [List.take_of_length_le (by simp)]
  exact h _ _ (List.getElem_mem _) hg'
theorem cell_em {i : Int} {ns : List Int} {cs : Cs} {Q : Rv → Cs → Prop} (hi : 0 ≤ i) (hb : ∀ z ∈ ns, Builtin.Int.intBits z ≤ 1048576) (hl : ns.length ≤ 1000) (h : ∀ z : Int, Q (di z) cs) : Em m__law_cell [.dat (.list (ns.map .int)), .dat (.int i)] cs Q := by
  unfold m__law_cell
  rw [em_fnM]
  simp [b__law_cell, dLen, dLt, dCmp]
  by_cases hlt : i < (ns.length : Int)
  · rw [if_pos hlt]
    have hlt' : i < ((ns.map PyData.int).length : Int) := by simpa using hlt
    simp only [o2_dd, dIx, atI_nat hi hlt', wpd_some, Option.map_some, ret_dat, fin_dat, List.getElem_map, nx_rt, List.take_length]
    exact h _
  · rw [if_neg hlt]
    have ic : ∀ l : List Int, intsD (l.map PyData.int) = some l := fun l => by
      induction l with
      | nil => rfl
      | cons a l ih =>
        show (intsD (l.map PyData.int)).map _ = _
        rw [ih]; rfl
    have ec : DL.cutD (ns.map PyData.int) none (some 1) = ((ns.take 1).map PyData.int) := by
      cases ns with
      | nil => rfl
      | cons a l =>
        unfold DL.cutD HT.sIx
        rw [List.length_map]
        simp
    have ic2 : intsD (List.take 1 (ns.map PyData.int)) = some (ns.take 1) := by rw [← List.map_take, ic]
    simp [dSl, ec, dSum, dMod, dI, ic2]
    exact h _
theorem generator_em {i : Int} {ns : List Int} {cs : Cs} {Q : Rv → Cs → Prop} (hi : 0 ≤ i) (hi2 : i ≤ 10 ^ 9) (hb : ∀ z ∈ ns, Builtin.Int.intBits z ≤ 1048576) (hl : ns.length ≤ 1000) (h : ∀ c : List D, Gs (1000 * i) c → Q (.fr c) cs) : Em m__law_generator [.dat (.list (ns.map .int)), .dat (.int i)] cs Q := by
  unfold m__law_generator
  rw [em_fnM]
  simp [b__law_generator]
  refine cell_em hi hb hl fun z => ?_
  simp [dInt, dMax2, dMod, dSub, dPow, dI, dMul]
  refine ⟨by decide, by decide, by decide, cml 10 30 (by decide) (abs_lt hi (by omega)), by rw [sizeLine_eq]; decide, ?_⟩
  generalize (if z - 1000000000000000000 < 0 then 0 else z - 1000000000000000000) = y
  have f1 := fmod_b (x := y) (m := 10 ^ 600) (by decide)
  have f2 := fmod_b (x := z) (m := 2147483647) (by decide)
  exact h _ ⟨_, _, _, rfl, f1.1, f1.2, f2.1, f2.2, by omega, by omega⟩
end My
namespace My
open PySem PySem.Spec PyProof.Rows L2 DL
def b_is_whole : MS :=
  (sRet (mAnd (mU (dIsi "int") (xVar 0)) (mU dNot (mU (dIsi "bool") (xVar 0)))))
def m_is_whole : MF := fnM 1 b_is_whole
noncomputable def b_common_of : MS :=
  (sSeq (sParO 0 1 (aDat (mCall dAbs (aCons (xVar 0) aNil)) (aDat (mCall dAbs (aCons (xVar 1) aNil)) aNil)))
  (sSeq (sWh (mTB (mB dGt (xVar 1) (xC (.int 0)))) (sParO 0 1 (aDat (xVar 1) (aDat (mB dMod (xVar 0) (xVar 1)) aNil))))
  (sRet (xVar 0))))
noncomputable def m_common_of : MF := fnM 2 b_common_of
noncomputable def b_is_fraction : MS :=
  (sSeq (sIf (mTOr (mTNot (mTru (mU (dIsi "tuple") (xVar 0)))) (mTOr (mTB (mB dNe (mCall dLen (aCons (xVar 0) aNil)) (xC (.int 2)))) (mTOr (mTNot (mTru (mCallF 1 m_is_whole (aCons (mB dIx (xVar 0) (xC (.int 0))) aNil)))) (mTNot (mTru (mCallF 1 m_is_whole (aCons (mB dIx (xVar 0) (xC (.int 1))) aNil))))))) (sRet (xC (.bool false))) sNil)
  (sRet (mAnd (mB dGe (mB dIx (xVar 0) (xC (.int 1))) (xC (.int 1))) (mB dEq (mCallF 2 m_common_of (aCons (mB dIx (xVar 0) (xC (.int 0))) (aCons (mB dIx (xVar 0) (xC (.int 1))) aNil))) (xC (.int 1))))))
noncomputable def m_is_fraction : MF := fnM 1 b_is_fraction
noncomputable def b_lowest_of : MS :=
  (sSeq (sSet 2 (mCallF 2 m_common_of (aCons (xVar 0) (aCons (xVar 1) aNil))))
  (sSeq (sIf (mTB (mB dLt (xVar 1) (xC (.int 0)))) (sSet 2 (mB dSub (xC (.int 0)) (xVar 2))) sNil)
  (sRet (xTup (aCons (mB dDiv (xVar 0) (xVar 2)) (aCons (mB dDiv (xVar 1) (xVar 2)) aNil))))))
noncomputable def m_lowest_of : MF := fnM 3 b_lowest_of
noncomputable def b_plus_of : MS :=
  (sRet (mCallF 2 m_lowest_of (aCons (mB dAdd (mB dMul (mB dIx (xVar 0) (xC (.int 0))) (mB dIx (xVar 1) (xC (.int 1)))) (mB dMul (mB dIx (xVar 1) (xC (.int 0))) (mB dIx (xVar 0) (xC (.int 1))))) (aCons (mB dMul (mB dIx (xVar 0) (xC (.int 1))) (mB dIx (xVar 1) (xC (.int 1)))) aNil))))
noncomputable def m_plus_of : MF := fnM 2 b_plus_of
noncomputable def b_times_of : MS :=
  (sRet (mCallF 2 m_lowest_of (aCons (mB dMul (mB dIx (xVar 0) (xC (.int 0))) (mB dIx (xVar 1) (xC (.int 0)))) (aCons (mB dMul (mB dIx (xVar 0) (xC (.int 1))) (mB dIx (xVar 1) (xC (.int 1)))) aNil))))
noncomputable def m_times_of : MF := fnM 2 b_times_of
end My
namespace My
open PySem PySem.Spec PyProof.Rows L2 DL
/-! fractions: what the shared defs compute -/
theorem fem_eq {m : MF} {rs : List Rv} {cs cs' : Cs} {z : Rv} (h : Em m rs cs fun r c => r = z ∧ c = cs') : m rs cs = some (z, cs') := by
  obtain ⟨a, b, e, rfl, rfl⟩ := wpo_iff.mp h
  exact e
theorem fem_of {m : MF} {rs : List Rv} {cs cs' : Cs} {z : Rv} {Q : Rv → Cs → Prop} (e : m rs cs = some (z, cs')) (h : Q z cs') : Em m rs cs Q := wpo_of e h
theorem fisi_tuple (d : D) : dIsi "tuple" d = some (db (match d with | .tuple _ => true | _ => false)) := by
  cases d with
  | dict kvs =>
    show (kitB (if isFn kvs = true then "function" else "dict") "tuple").map db = _
    split <;> rfl
  | _ => rfl
theorem fisi_int (d : D) : dIsi "int" d = some (db (match d with | .int _ => true | .bool _ => true | _ => false)) := by
  cases d with
  | dict kvs =>
    show (kitB (if isFn kvs = true then "function" else "dict") "int").map db = _
    split <;> rfl
  | _ => rfl
theorem fisi_bool (d : D) : dIsi "bool" d = some (db (match d with | .bool _ => true | _ => false)) := by
  cases d with
  | dict kvs =>
    show (kitB (if isFn kvs = true then "function" else "dict") "bool").map db = _
    split <;> rfl
  | _ => rfl
theorem fdEq_int {i j : Int} : dEq (.int i) (.int j) = some (db (i == j)) := by
  unfold dEq
  rw [if_pos ⟨rfl, rfl, by show min 0 0 ≤ 100; decide⟩]
  rfl
theorem fdNe_int {i j : Int} : dNe (.int i) (.int j) = some (db (!(i == j))) := by
  unfold dNe
  rw [if_pos ⟨rfl, rfl, by show min 0 0 ≤ 100; decide⟩]
  rfl
theorem dGt_int {i j : Int} : dGt (.int i) (.int j) = some (db (decide (j < i))) := rfl
theorem dLt_int {i j : Int} : dLt (.int i) (.int j) = some (db (decide (i < j))) := rfl
theorem dGe_int {i j : Int} : dGe (.int i) (.int j) = some (db (decide (j ≤ i))) := rfl
theorem dSub_int {i j : Int} : dSub (.int i) (.int j) = some (di (i - j)) := rfl
theorem dAdd_int {i j : Int} : dAdd (.int i) (.int j) = some (di (i + j)) := rfl
theorem dMul_int {i j : Int} (h : CMl i j) : dMul (.int i) (.int j) = some (di (i * j)) := if_pos h
theorem dDiv_int {i j : Int} (h : CDv i j) : dDiv (.int i) (.int j) = some (di (i.fdiv j)) := if_pos h
theorem dMod_int {i j : Int} (h : j ≠ 0) : dMod (.int i) (.int j) = some (di (i.fmod j)) := if_pos h
theorem dAbs_int {i : Int} : dAbs [.int i] = some (di (i.natAbs : Int)) := by
  show some (di (if i < 0 then -i else i)) = _
  congr 3
  split <;> omega
def wholeB : D → Bool
  | .int _ => true
  | _ => false
theorem is_whole_eq {d : D} {cs : Cs} : m_is_whole [.dat d] cs = some (db (wholeB d), cs) := by
  refine fem_eq ?_
  unfold m_is_whole
  rw [em_fnM]
  unfold b_is_whole
  cases d <;> simp [fisi_int, fisi_bool, dNot, wholeB]
/-- the measure of the Euclid loop -/
def muE (ρ : Rho) (_ : Cs) : Nat := match ρ with
  | [_, some (.dat (.int y))] => y.toNat
  | _ => 0
theorem common_eq {a b : Int} {cs : Cs} : m_common_of [.dat (.int a), .dat (.int b)] cs = some (di (Int.gcd a b), cs) := by
  refine fem_eq ?_
  unfold m_common_of
  rw [em_fnM]
  unfold b_common_of
  simp [dAbs_int]
  refine es_sWh (fun ρ c => ∃ x y : Nat, ρ = [some (di x), some (di y)] ∧ c = cs ∧ Nat.gcd x y = Int.gcd a b) muE ⟨a.natAbs, b.natAbs, rfl, rfl, rfl⟩ ?_
  rintro ρ c ⟨x, y, rfl, rfl, h⟩
  by_cases hy : 0 < y
  · have hy' : (y : Int) ≠ 0 := by omega
    have e : (x : Int).fmod y = ((x % y : Nat) : Int) := by rw [Int.fmod_eq_emod_of_nonneg _ (by omega)]; rfl
    simp [dGt_int, hy, dMod_int hy', e, muE]
    refine ⟨⟨y, x % y, ⟨rfl, by omega⟩, ?_⟩, ?_⟩
    · rw [← h, Nat.gcd_comm x y, Nat.gcd_rec y x, Nat.gcd_comm]
    · have := Nat.mod_lt x hy
      omega
  · have : y = 0 := by omega
    subst this
    simp [dGt_int]
    rw [← h]
    simp
/-- the parts of a / b in lowest terms -/
def nfA (a b : Int) : Int := (b.sign * a) / (Int.gcd a b : Int)
def nfB (a b : Int) : Int := (b.natAbs : Int) / (Int.gcd a b : Int)
theorem gcd_pos {a b : Int} (h : b ≠ 0) : 0 < Int.gcd a b := Nat.gcd_pos_of_pos_right _ (Int.natAbs_pos.mpr h)
theorem gcd_le {a b : Int} (h : b ≠ 0) : Int.gcd a b ≤ b.natAbs := Nat.gcd_le_right _ (Int.natAbs_pos.mpr h)
theorem fdiv_pos {a g : Int} (h : 0 < g) : a.fdiv g = a / g := Int.fdiv_eq_ediv_of_nonneg a (Int.le_of_lt h)
theorem fdiv_neg' {a g : Int} (h : 0 < g) (hd : g ∣ a) : a.fdiv (-g) = (-a) / g := by
  obtain ⟨k, rfl⟩ := hd
  have e : (g * k).fdiv (-g) = -k := by
    rw [show g * k = (-g) * (-k) by rw [Int.neg_mul_neg], Int.mul_fdiv_cancel_left _ (by omega)]
  rw [e, show -(g * k) = g * (-k) by rw [Int.mul_neg], Int.mul_ediv_cancel_left _ (by omega)]
theorem lowest_eq {a b : Int} {cs : Cs} (hb : b ≠ 0) (hz : b.natAbs < 2 ^ 8000) : m_lowest_of [.dat (.int a), .dat (.int b)] cs = some (.dat (.tuple [.int (nfA a b), .int (nfB a b)]), cs) := by
  have g0 := gcd_pos (a := a) hb
  have g1 : Int.gcd a b < 2 ^ 8000 := Nat.lt_of_le_of_lt (gcd_le hb) hz
  have two : 2 ≤ sizeLine := by rw [sizeLine_eq]; decide
  have dv : ∀ x : Int, CDv x (Int.gcd a b : Int) := fun x => ⟨by omega, by
    have := log2_le g1
    show (Int.gcd a b : Int).natAbs.log2 < 9000
    rw [Int.natAbs_natCast]
    omega⟩
  have dvn : ∀ x : Int, CDv x (-(Int.gcd a b : Int)) := fun x => ⟨by omega, by
    have := log2_le g1
    show (-(Int.gcd a b : Int)).natAbs.log2 < 9000
    rw [Int.natAbs_neg, Int.natAbs_natCast]
    omega⟩
  have gi : (0 : Int) < (Int.gcd a b : Int) := by omega
  refine fem_eq ?_
  unfold m_lowest_of
  rw [em_fnM]
  unfold b_lowest_of
  simp
  refine fem_of common_eq ?_
  by_cases hn : b < 0
  · have s : b.sign = -1 := Int.sign_eq_neg_one_of_neg hn
    have e1 : a.fdiv (-(Int.gcd a b : Int)) = nfA a b := by
      rw [fdiv_neg' gi (Int.gcd_dvd_left ..)]
      unfold nfA
      rw [s, Int.neg_one_mul]
    have e2 : b.fdiv (-(Int.gcd a b : Int)) = nfB a b := by
      rw [fdiv_neg' gi (Int.gcd_dvd_right ..)]
      unfold nfB
      rw [show (b.natAbs : Int) = -b by omega]
    simp [dLt_int, hn, dSub_int, dDiv_int (dvn _), e1, e2, two]
  · have s : b.sign = 1 := Int.sign_eq_one_of_pos (by omega)
    have e1 : a.fdiv (Int.gcd a b : Int) = nfA a b := by
      rw [fdiv_pos gi]
      unfold nfA
      rw [s, Int.one_mul]
    have e2 : b.fdiv (Int.gcd a b : Int) = nfB a b := by
      rw [fdiv_pos gi]
      unfold nfB
      rw [show (b.natAbs : Int) = b by omega]
    simp [dLt_int, hn, dDiv_int (dv _), e1, e2, two]
def fracB : D → Bool
  | .tuple [.int p, .int q] => decide (1 ≤ q) && ((Int.gcd p q : Int) == 1)
  | _ => false
theorem dIx_t0 {a b : D} : dIx (.tuple [a, b]) (.int 0) = some (.dat a) := rfl
theorem dIx_t1 {a b : D} : dIx (.tuple [a, b]) (.int 1) = some (.dat b) := rfl
theorem is_fraction_eq {d : D} {cs : Cs} : m_is_fraction [.dat d] cs = some (db (fracB d), cs) := by
  refine fem_eq ?_
  unfold m_is_fraction
  rw [em_fnM]
  unfold b_is_fraction
  cases d with
  | tuple ds =>
    match ds with
    | [] => simp [fisi_tuple, dLen, fdNe_int, fracB]
    | [_] => simp [fisi_tuple, dLen, fdNe_int, fracB]
    | x :: y :: z :: r =>
      have e : ((((x :: y :: z :: r).length : Nat) : Int) == 2) = false := by
        rw [beq_eq_false_iff_ne]
        simp only [List.length_cons]
        omega
      simp [fisi_tuple, dLen, fdNe_int, fracB]
      intro h
      exfalso
      have := Int.natCast_nonneg r.length
      omega
    | [x, y] =>
      simp [fisi_tuple, dLen, fdNe_int, dIx_t0, dIx_t1]
      refine fem_of is_whole_eq ?_
      simp
      by_cases hx : ∃ p, x = .int p
      · obtain ⟨p, rfl⟩ := hx
        rw [show wholeB (.int p) = true from rfl, if_pos rfl]
        refine fem_of is_whole_eq ?_
        by_cases hy : ∃ q, y = .int q
        · obtain ⟨q, rfl⟩ := hy
          simp [wholeB, dGe_int]
          by_cases h1 : 1 ≤ q
          · simp [h1]
            refine fem_of common_eq ?_
            simp [fdEq_int, fracB, h1]
          · simp [h1, fracB]
        · have : wholeB y = false := by
            cases y with
            | int q => exact absurd ⟨q, rfl⟩ hy
            | _ => rfl
          simp [this]
          cases y with
          | int q => exact absurd ⟨q, rfl⟩ hy
          | _ => rfl
      · have : wholeB x = false := by
          cases x with
          | int q => exact absurd ⟨q, rfl⟩ hx
          | _ => rfl
        rw [this, if_neg (by decide)]
        cases x with
        | int q => exact absurd ⟨q, rfl⟩ hx
        | _ => rfl
  | _ => simp [fisi_tuple, fracB]
theorem pow_le {n a b : Nat} (h : n < 2 ^ a) (hab : a ≤ b) : n < 2 ^ b := Nat.lt_of_lt_of_le h (Nat.pow_le_pow_right (by decide) hab)
theorem lg_add {i j : Int} {a : Nat} (h1 : i.natAbs < 2 ^ a) (h2 : j.natAbs < 2 ^ a) : (i + j).natAbs < 2 ^ (a + 1) := by
  rw [Nat.pow_succ]
  omega
theorem times_eq {p1 q1 p2 q2 : Int} {n : Nat} {cs : Cs} (h1 : p1.natAbs < 2 ^ n) (h2 : q1.natAbs < 2 ^ n) (h3 : p2.natAbs < 2 ^ n) (h4 : q2.natAbs < 2 ^ n) (hq1 : q1 ≠ 0) (hq2 : q2 ≠ 0) (hn : n ≤ 4000) :
    m_times_of [.dat (.tuple [.int p1, .int q1]), .dat (.tuple [.int p2, .int q2])] cs = some (.dat (.tuple [.int (nfA (p1 * p2) (q1 * q2)), .int (nfB (p1 * p2) (q1 * q2))]), cs) := by
  refine fem_eq ?_
  unfold m_times_of
  rw [em_fnM]
  unfold b_times_of
  simp [dIx_t0, dIx_t1, dMul_int (cml n n h1 h3 (by omega)), dMul_int (cml n n h2 h4 (by omega))]
  refine fem_of (lowest_eq (Int.mul_ne_zero hq1 hq2) (pow_le (lg_mul h2 h4) (by omega))) ?_
  simp
theorem plus_eq {p1 q1 p2 q2 : Int} {n : Nat} {cs : Cs} (h1 : p1.natAbs < 2 ^ n) (h2 : q1.natAbs < 2 ^ n) (h3 : p2.natAbs < 2 ^ n) (h4 : q2.natAbs < 2 ^ n) (hq1 : q1 ≠ 0) (hq2 : q2 ≠ 0) (hn : n ≤ 4000) :
    m_plus_of [.dat (.tuple [.int p1, .int q1]), .dat (.tuple [.int p2, .int q2])] cs = some (.dat (.tuple [.int (nfA (p1 * q2 + p2 * q1) (q1 * q2)), .int (nfB (p1 * q2 + p2 * q1) (q1 * q2))]), cs) := by
  refine fem_eq ?_
  unfold m_plus_of
  rw [em_fnM]
  unfold b_plus_of
  simp [dIx_t0, dIx_t1, dMul_int (cml n n h1 h4 (by omega)), dMul_int (cml n n h3 h2 (by omega)), dMul_int (cml n n h2 h4 (by omega)), dAdd_int]
  refine fem_of (lowest_eq (Int.mul_ne_zero hq1 hq2) (pow_le (lg_mul h2 h4) (by omega))) ?_
  simp
theorem nfB_pos {a b : Int} (h : b ≠ 0) : 0 < nfB a b := by
  have g0 := gcd_pos (a := a) h
  have g1 := gcd_le (a := a) h
  unfold nfB
  rw [← Int.natCast_ediv]
  have := Nat.div_pos g1 g0
  omega
theorem nfB_le {a b : Int} (h : b ≠ 0) : (nfB a b).natAbs ≤ b.natAbs := by
  unfold nfB
  rw [← Int.natCast_ediv, Int.natAbs_natCast]
  exact Nat.div_le_self _ _
theorem nfA_le {a b : Int} : (nfA a b).natAbs ≤ a.natAbs := by
  unfold nfA
  refine Nat.le_trans (Int.natAbs_ediv_le_natAbs _ _) ?_
  rw [Int.natAbs_mul]
  have : b.sign.natAbs ≤ 1 := by
    rcases Int.lt_trichotomy b 0 with h | h | h
    · rw [Int.sign_eq_neg_one_of_neg h]; decide
    · subst h; decide
    · rw [Int.sign_eq_one_of_pos h]; decide
  exact Nat.le_trans (Nat.mul_le_mul_right _ this) (by omega)
theorem nf_gcd {a b : Int} (h : b ≠ 0) : Int.gcd (nfA a b) (nfB a b) = 1 := by
  have g0 := gcd_pos (a := a) h
  have s1 : b.sign.natAbs = 1 := by
    rcases Int.lt_trichotomy b 0 with h' | h' | h'
    · rw [Int.sign_eq_neg_one_of_neg h']; rfl
    · exact absurd h' h
    · rw [Int.sign_eq_one_of_pos h']; rfl
  have eA : (nfA a b).natAbs = a.natAbs / Int.gcd a b := by
    unfold nfA
    rw [Int.natAbs_ediv_of_dvd (Int.dvd_mul_of_dvd_right (Int.gcd_dvd_left ..)), Int.natAbs_mul, s1, Nat.one_mul, Int.natAbs_natCast]
  have eB : (nfB a b).natAbs = b.natAbs / Int.gcd a b := by
    unfold nfB
    rw [← Int.natCast_ediv, Int.natAbs_natCast]
  show Nat.gcd (nfA a b).natAbs (nfB a b).natAbs = 1
  rw [eA, eB]
  exact Nat.gcd_div_gcd_div_gcd_of_pos_right (Int.natAbs_pos.mpr h)
theorem nf_frac {a b : Int} (h : b ≠ 0) : fracB (.tuple [.int (nfA a b), .int (nfB a b)]) = true := by
  show (decide (1 ≤ nfB a b) && ((Int.gcd (nfA a b) (nfB a b) : Int) == 1)) = true
  rw [nf_gcd h, decide_eq_true (by have := nfB_pos (a := a) h; omega)]
  rfl
/-- a fraction in lowest terms stays -/
theorem nf_of {p q : Int} (h1 : 0 < q) (h2 : Int.gcd p q = 1) : nfA p q = p ∧ nfB p q = q := by
  unfold nfA nfB
  rw [h2, Int.sign_eq_one_of_pos h1]
  constructor
  · simp
  · simp; omega
theorem nf_neg {a b : Int} : nfA (-a) (-b) = nfA a b ∧ nfB (-a) (-b) = nfB a b := by
  unfold nfA nfB
  rw [Int.gcd_neg, Int.neg_gcd, Int.sign_neg, Int.neg_mul_neg, Int.natAbs_neg]
  exact ⟨rfl, rfl⟩
theorem nf_mul {a b k : Int} (hk : 0 < k) (hb : b ≠ 0) : nfA (a * k) (b * k) = nfA a b ∧ nfB (a * k) (b * k) = nfB a b := by
  have hk' : k.natAbs ≠ 0 := by omega
  have e : Int.gcd (a * k) (b * k) = Int.gcd a b * k.natAbs := Int.gcd_mul_right ..
  have ek : ((k.natAbs : Nat) : Int) = k := by omega
  unfold nfA nfB
  rw [e, Int.sign_mul, Int.sign_eq_one_of_pos hk, Int.mul_one, Int.natAbs_mul, Int.natCast_mul, Int.natCast_mul, ek, ← Int.mul_assoc]
  exact ⟨Int.mul_ediv_mul_of_pos_left _ _ hk, Int.mul_ediv_mul_of_pos_left _ _ hk⟩
end My
namespace My
open PySem PySem.Spec PyProof.Rows L2 DL
/-! Euclid's steps: how many -/
def eu1 (p : Nat × Nat) : Nat × Nat := if 0 < p.2 then (p.2, p.1 % p.2) else (p.1, 0)
def eu : Nat → Nat × Nat → Nat × Nat
  | 0, p => p
  | n + 1, p => eu n (eu1 p)
theorem eu_succ : ∀ (n : Nat) (p : Nat × Nat), eu (n + 1) p = eu1 (eu n p)
  | 0, _ => rfl
  | n + 1, p => by
    show eu (n + 1) (eu1 p) = eu1 (eu n (eu1 p))
    exact eu_succ n (eu1 p)
theorem eu1_gcd (p : Nat × Nat) : Nat.gcd (eu1 p).1 (eu1 p).2 = Nat.gcd p.1 p.2 := by
  unfold eu1
  split
  · show Nat.gcd p.2 (p.1 % p.2) = _
    rw [Nat.gcd_comm p.1 p.2, Nat.gcd_rec p.2 p.1, Nat.gcd_comm]
  · have : p.2 = 0 := by omega
    rw [this]
theorem eu_gcd : ∀ (n : Nat) (p : Nat × Nat), Nat.gcd (eu n p).1 (eu n p).2 = Nat.gcd p.1 p.2
  | 0, _ => rfl
  | n + 1, p => by
    show Nat.gcd (eu n (eu1 p)).1 (eu n (eu1 p)).2 = _
    rw [eu_gcd n, eu1_gcd]
def fib : Nat → Nat
  | 0 => 0
  | 1 => 1
  | n + 2 => fib n + fib (n + 1)
theorem eu_zero : ∀ (n : Nat) (x : Nat), (eu n (x, 0)).2 = 0
  | 0, _ => rfl
  | n + 1, x => eu_zero n x
theorem lame : ∀ (n a b : Nat), 0 < (eu n (a, b)).2 → fib (n + 1) ≤ b ∧ (b ≤ a → fib (n + 2) ≤ a)
  | 0, a, b, h => by
    have h' : 0 < b := h
    exact ⟨h', fun hb => by show 0 + 1 ≤ a; omega⟩
  | n + 1, a, b, h => by
    have hb : 0 < b := by
      rcases Nat.eq_zero_or_pos b with h0 | h0
      · subst h0
        have := eu_zero (n + 1) a
        omega
      · exact h0
    have e : eu (n + 1) (a, b) = eu n (b, a % b) := by
      show eu n (eu1 (a, b)) = _
      unfold eu1
      rw [if_pos hb]
    rw [e] at h
    obtain ⟨h1, h2⟩ := lame n b (a % b) h
    have hm := Nat.mod_lt a hb
    have h3 := h2 (Nat.le_of_lt hm)
    refine ⟨h3, fun hba => ?_⟩
    have : b + a % b ≤ a := by
      have q1 := Nat.div_add_mod a b
      have q2 : 1 ≤ a / b := Nat.div_pos hba hb
      have q3 : b * 1 ≤ b * (a / b) := Nat.mul_le_mul_left b q2
      omega
    show fib (n + 1) + fib (n + 2) ≤ a
    omega
theorem fib_mono : ∀ n, fib n ≤ fib (n + 1)
  | 0 => Nat.zero_le _
  | 1 => Nat.le_refl _
  | n + 2 => by
    have h1 : fib n ≤ fib (n + 1) := fib_mono n
    have h2 : fib (n + 1) ≤ fib (n + 2) := fib_mono (n + 1)
    show fib n + fib (n + 1) ≤ fib (n + 1) + fib (n + 2)
    omega
theorem fib_ten : ∀ d, 10 ^ d ≤ fib (5 * d + 2)
  | 0 => Nat.le_refl 1
  | d + 1 => by
    have ih := fib_ten d
    have m := fib_mono (5 * d + 1)
    have m0 := fib_mono (5 * d)
    rw [show 5 * (d + 1) + 2 = 5 * d + 2 + 5 by omega, Nat.pow_succ]
    have e2 : fib (5 * d + 2) = fib (5 * d) + fib (5 * d + 1) := rfl
    have e3 : fib (5 * d + 3) = fib (5 * d + 1) + fib (5 * d + 2) := rfl
    have e4 : fib (5 * d + 4) = fib (5 * d + 2) + fib (5 * d + 3) := rfl
    have e5 : fib (5 * d + 5) = fib (5 * d + 3) + fib (5 * d + 4) := rfl
    have e6 : fib (5 * d + 6) = fib (5 * d + 4) + fib (5 * d + 5) := rfl
    have e7 : fib (5 * d + 2 + 5) = fib (5 * d + 5) + fib (5 * d + 6) := rfl
    omega
theorem eu_done {a b d : Nat} (h : b < 10 ^ d) : (eu (5 * d + 1) (a, b)).2 = 0 := by
  rcases Nat.eq_zero_or_pos (eu (5 * d + 1) (a, b)).2 with h0 | h0
  · exact h0
  · have h1 : fib (5 * d + 2) ≤ b := (lame _ a b h0).1
    have h2 := fib_ten d
    omega
theorem eu_end {a b d : Nat} (h : b < 10 ^ d) : eu (5 * d + 1) (a, b) = (Nat.gcd a b, 0) := by
  have h1 := eu_done (a := a) h
  have h2 := eu_gcd (5 * d + 1) (a, b)
  rw [h1, Nat.gcd_zero_right] at h2
  exact Prod.ext h2 h1
end My
namespace My
open PySem PySem.Spec PyProof.Rows L2 DL
def b__law_copied (self : MF) : MS :=
  (sSeq (sIf (mTru (mU (dIsi "list") (xVar 0))) (sRet (xComp (iSeq (xVar 0)) (gNm 1) mYes (mCallF 1 self (aCons (xVar 1) aNil)) [1])) sNil)
  (sSeq (sIf (mTru (mU (dIsi "tuple") (xVar 0))) (sRet (mCall dTuple (aCons (xComp (iSeq (xVar 0)) (gNm 1) mYes (mCallF 1 self (aCons (xVar 1) aNil)) [1]) aNil))) sNil)
  (sRet (mIf (mTru (mU (dIsi "dict") (xVar 0))) (mCall dDict (aCons (xComp (iSeq (xVar 0)) (gNm 2) mYes (xTup (aCons (xVar 2) (aCons (mCallF 1 self (aCons (mB dDGet (xVar 0) (xVar 2)) aNil)) aNil))) [2]) aNil)) (xVar 0)))))
def m__law_copied : MF := recM 3 b__law_copied 6
def b__law_exact (self : MF) : MS :=
  (sSeq (sIf (mTru (mU (dIsi "list") (xVar 1))) (sRet (mAnd (mU (dIsi "list") (xVar 0)) (mAnd (mB dEq (mCall dLen (aCons (xVar 0) aNil)) (mCall dLen (aCons (xVar 1) aNil))) (mB dNotIn (xC (.bool false)) (xComp (iZp (aCons (xVar 0) (aCons (xVar 1) aNil))) (gTp 2 (gsCons (gNm 2) (gsCons (gNm 3) gsNil))) mYes (mCallF 2 self (aCons (xVar 2) (aCons (xVar 3) aNil))) [2, 3]))))) sNil)
  (sSeq (sIf (mTru (mU (dIsi "tuple") (xVar 1))) (sRet (mAnd (mU (dIsi "tuple") (xVar 0)) (mAnd (mB dEq (mCall dLen (aCons (xVar 0) aNil)) (mCall dLen (aCons (xVar 1) aNil))) (mB dNotIn (xC (.bool false)) (xComp (iZp (aCons (xVar 0) (aCons (xVar 1) aNil))) (gTp 2 (gsCons (gNm 2) (gsCons (gNm 3) gsNil))) mYes (mCallF 2 self (aCons (xVar 2) (aCons (xVar 3) aNil))) [2, 3]))))) sNil)
  (sSeq (sIf (mTB (mB (dIs id) (xVar 1) (xC .none))) (sRet (mB (dIs id) (xVar 0) (xC .none))) sNil)
  (sSeq (sIf (mTB (mB (dIs id) (xVar 1) (xC (.bool true)))) (sRet (mB (dIs id) (xVar 0) (xC (.bool true)))) sNil)
  (sSeq (sIf (mTB (mB (dIs id) (xVar 1) (xC (.bool false)))) (sRet (mB (dIs id) (xVar 0) (xC (.bool false)))) sNil)
  (sSeq (sIf (mTru (mU (dIsi "int") (xVar 1))) (sRet (mAnd (mU (dIsi "int") (xVar 0)) (mAnd (mU dNot (mU (dIsi "bool") (xVar 0))) (mB dEq (xVar 0) (xVar 1))))) sNil)
  (sRet (mAnd (mU (dIsi "str") (xVar 0)) (mB dEq (xVar 0) (xVar 1))))))))))
def m__law_exact : MF := recM 4 b__law_exact 6
def b__law_any : MS :=
  (sSeq (sSet 1 (xLst (aCons (xC .none) (aCons (xC (.bool true)) (aCons (xC (.bool false)) (aCons (xC (.int 0)) (aCons (xC (.int 1)) (aCons (mU dNeg (xC (.int 1))) (aCons (mB dPow (xC (.int 10)) (xC (.int 11))) (aCons (xC (.str "")) (aCons (xC (.str "a")) (aCons (xC (.str "A")) (aCons (xC (.str "ab")) (aCons (xC (.str "a b")) (aCons (xC (.str "1a")) (aCons (xC (.str "a1")) (aCons (xC (.str " ")) (aCons (xC (.str "a\n")) (aCons (mB dMul (xC (.str "z")) (xC (.int 20))) (aCons (mB dMul (xC (.str "z")) (xC (.int 21))) (aCons (xC (.str "abcdefgh")) (aCons (xC (.str "abcdefghi")) aNil))))))))))))))))))))))
  (sSeq (sSet 1 (mB dAdd (xVar 1) (xLst (aCons (xLst aNil) (aCons (xTup aNil) (aCons (xC (.dict [])) (aCons (xLst (aCons (xC (.int 0)) aNil)) (aCons (xLst (aCons (xC (.int 1)) (aCons (xC (.int 0)) aNil))) (aCons (xLst (aCons (xC (.int 0)) (aCons (xC (.str "a")) aNil))) (aCons (xLst (aCons (xC (.str "a")) (aCons (xC (.int 0)) aNil))) (aCons (xLst (aCons (xC .none) (aCons (xC (.int 0)) aNil))) (aCons (xLst (aCons (xC (.int 0)) (aCons (xLst (aCons (xC (.int 1)) aNil)) aNil))) (aCons (xLst (aCons (xC (.int 0)) (aCons (xTup (aCons (xC (.int 1)) aNil)) aNil))) (aCons (xLst (aCons (xC (.bool true)) aNil)) (aCons (xLst (aCons (xC (.int 0)) (aCons (xC (.int 1)) aNil))) (aCons (xLst (aCons (xC (.int 0)) (aCons (xC (.int 0)) aNil))) (aCons (xTup (aCons (xC (.int 0)) (aCons (xC (.int 1)) aNil))) (aCons (xLst (aCons (xC (.str "a")) aNil)) (aCons (xLst (aCons (xLst aNil) aNil)) aNil)))))))))))))))))))
  (sSeq (sSet 1 (mB dAdd (xVar 1) (xLst (aCons (xC (.dict [((.str "a"), (.int 1))])) (aCons (xLst (aCons (xC (.int 1)) (aCons (xC (.int 2)) (aCons (mB dPow (xC (.int 10)) (xC (.int 11))) aNil)))) (aCons (xLst (aCons (mU dNeg (xC (.int 1))) aNil)) (aCons (xC (.str "a_b")) (aCons (xC (.str "aB")) (aCons (mB dMul (xC (.str "a")) (xC (.int 200))) (aCons (xC (.str "e0")) (aCons (xC (.str "0")) (aCons (xC (.str "house")) (aCons (xTup (aCons (xC (.str "house")) aNil)) aNil)))))))))))))
  (sRet (mCallF 1 m__law_copied (aCons (mCallF 2 m__law_pick (aCons (xVar 0) (aCons (xVar 1) aNil))) aNil))))))
def m__law_any : MF := fnM 2 b__law_any
/-! plain facts -/
theorem em_eq {m : MF} {rs : List Rv} {cs cs' : Cs} {z : Rv} (h : Em m rs cs fun r c => r = z ∧ c = cs') : m rs cs = some (z, cs') := by
  obtain ⟨a, b, e, rfl, rfl⟩ := wpo_iff.mp h
  exact e
theorem em_of {m : MF} {rs : List Rv} {cs cs' : Cs} {z : Rv} {Q : Rv → Cs → Prop} (e : m rs cs = some (z, cs')) (h : Q z cs') : Em m rs cs Q := wpo_of e h
theorem plain_all : ∀ {l : List D}, PyData.plainAll l = true ↔ ∀ d ∈ l, d.plain = true
  | [] => by simp [PyData.plainAll]
  | x :: xs => by
    rw [PyData.plainAll, Bool.and_eq_true, plain_all]
    simp
theorem eqv_nil (l : List D) : PyData.eqv (.list l) (.list []) = l.isEmpty := by
  cases l <;> simp [PyData.eqv, PyData.eqvAll]
theorem dEq_nil {l : List D} (h : PyData.plainAll l = true) : dEq (.list l) (.list []) = some (db l.isEmpty) := by
  unfold dEq
  rw [if_pos ⟨h, rfl, Nat.le_trans (Nat.min_le_right _ _) (by decide)⟩, eqv_nil]
theorem dNe_nil {l : List D} (h : PyData.plainAll l = true) : dNe (.list l) (.list []) = some (db (!l.isEmpty)) := by
  unfold dNe
  rw [if_pos ⟨h, rfl, Nat.le_trans (Nat.min_le_right _ _) (by decide)⟩, eqv_nil]
theorem dEq_int {i j : Int} : dEq (.int i) (.int j) = some (db (i == j)) := by
  unfold dEq
  rw [if_pos ⟨rfl, rfl, by show min 0 0 ≤ 100; decide⟩]
  rfl
theorem isi_str (d : D) : dIsi "str" d = some (db (match d with | .str _ => true | _ => false)) := by
  cases d with
  | dict kvs =>
    show (kitB (if isFn kvs = true then "function" else "dict") "str").map db = _
    split <;> rfl
  | _ => rfl
theorem isi_list (d : D) : dIsi "list" d = some (db (match d with | .list _ => true | _ => false)) := by
  cases d with
  | dict kvs =>
    show (kitB (if isFn kvs = true then "function" else "dict") "list").map db = _
    split <;> rfl
  | _ => rfl
theorem isi_tuple (d : D) : dIsi "tuple" d = some (db (match d with | .tuple _ => true | _ => false)) := by
  cases d with
  | dict kvs =>
    show (kitB (if isFn kvs = true then "function" else "dict") "tuple").map db = _
    split <;> rfl
  | _ => rfl
theorem isi_dict (d : D) : dIsi "dict" d = some (db (match d with | .dict kvs => !isFn kvs | _ => false)) := by
  cases d with
  | dict kvs =>
    show (kitB (if isFn kvs = true then "function" else "dict") "dict").map db = some (db (!isFn kvs))
    cases isFn kvs <;> rfl
  | _ => rfl
theorem isi_int (d : D) : dIsi "int" d = some (db (match d with | .int _ => true | .bool _ => true | _ => false)) := by
  cases d with
  | dict kvs =>
    show (kitB (if isFn kvs = true then "function" else "dict") "int").map db = _
    split <;> rfl
  | _ => rfl
theorem isi_bool (d : D) : dIsi "bool" d = some (db (match d with | .bool _ => true | _ => false)) := by
  cases d with
  | dict kvs =>
    show (kitB (if isFn kvs = true then "function" else "dict") "bool").map db = _
    split <;> rfl
  | _ => rfl
def SmS (d : D) : Prop := ∀ x, d = .str x → x.length ≤ sizeLine
def isS (d : D) : Bool := match d with
  | .str _ => true
  | _ => false
theorem rng_mem {lo : Int} {n : Nat} {d : D} (h : d ∈ rngD lo n) : ∃ i : Nat, i < n ∧ d = .int (lo + i) := by
  obtain ⟨i, h1, rfl⟩ := List.mem_map.mp h
  exact ⟨i, List.mem_range.mp h1, rfl⟩
theorem rng_len {lo : Int} {n : Nat} : (rngD lo n).length = n := by simp [rngD]
theorem rng_plain {lo : Int} {n : Nat} : PyData.plainAll (rngD lo n) = true := by
  rw [plain_all]
  intro d hd
  obtain ⟨i, _, rfl⟩ := rng_mem hd
  rfl
theorem plain_filter {l : List D} {P : D → Bool} (h : PyData.plainAll l = true) : PyData.plainAll (l.filter P) = true := by
  rw [plain_all] at h ⊢
  exact fun d hd => h d (List.mem_filter.mp hd).1
/-- what may be judged -/
structure Gd (d : D) : Prop where
  ok : rOk d = true
  sm : SmS d
  li : ∀ ds, d = .list ds → ds.length ≤ sizeLine ∧ PyData.plainAll ds = true ∧ ∀ x ∈ ds, SmS x
theorem notin_bools {l : List D} (h : ∀ d ∈ l, d = .bool true) : dNotIn (.bool false) (.list l) = some (db true) := by
  unfold dNotIn
  rw [if_pos (c := CIn (.bool false) (.list l)) ⟨plain_all.mpr fun d hd => by rw [h d hd]; rfl, rfl, Nat.le_trans (Nat.min_le_right _ _) (by show 0 ≤ 100; decide)⟩]
  have e : inD (.bool false) (.list l) = false := by
    show (l.any fun y => PyData.eqv y (.bool false)) = false
    rw [List.any_eq_false]
    intro d hd
    rw [h d hd]
    decide
  rw [e]
  rfl
theorem dEq_str {x y : Str} : dEq (.str x) (.str y) = some (db (x == y)) := by
  unfold dEq
  rw [if_pos ⟨rfl, rfl, by show min 0 0 ≤ 100; decide⟩]
  rfl
theorem repr_ok {d : D} (h : rOk d = true) : dRepr [d] = some (.dat (.str d.shown)) := if_pos h
theorem two_fit : 2 ≤ sizeLine := by rw [sizeLine_eq]; decide
theorem pick0 {r : Rv} : pick [0] [r] = [r] := rfl
/-- a small plain thing -/
def flB : D → Bool
  | .none => true
  | .bool _ => true
  | .int i => decide (i.natAbs < 10 ^ 40)
  | .str x => decide (x.length ≤ 1000) && x.cps.toList.all fun c => decide (c < 16 ^ 8)
  | _ => false
theorem ofs_len (x : String) : (Str.ofString x).length = x.length := PySem.ofString_length x
theorem fl_show {d : D} (h : flB d = true) : d.showable = true := by
  cases d with
  | int i =>
    have h' : i.natAbs < 10 ^ 40 := of_decide_eq_true h
    have : i.natAbs.log2 ≤ 133 := log2_le (Nat.lt_trans h' (by decide))
    show decide _ = true
    exact decide_eq_true (by omega)
  | list _ => cases h
  | tuple _ => cases h
  | dict _ => cases h
  | _ => rfl
theorem fl_leaf {d : D} (h : flB d = true) : d.leavesShort 41 = true := by
  cases d with
  | int i =>
    have h' : i.natAbs < 10 ^ 40 := of_decide_eq_true h
    have := PySem.int_text_length_le10 (k := 40) (by decide) h'
    show decide ((PyData.shown (.int i)).length ≤ 41) = true
    refine decide_eq_true ?_
    show (Str.ofString (toString i)).length ≤ 41
    rw [ofs_len]
    exact this
  | str x => exact (Bool.and_eq_true_iff.mp h).2
  | list _ => cases h
  | tuple _ => cases h
  | dict _ => cases h
  | _ => rfl
theorem fl_bulk {d : D} (h : flB d = true) : d.bulk ≤ 1000 := by
  cases d with
  | str x => exact of_decide_eq_true (Bool.and_eq_true_iff.mp h).1
  | list _ => cases h
  | tuple _ => cases h
  | dict _ => cases h
  | _ => exact Nat.zero_le _
theorem fl_depth {d : D} (h : flB d = true) : d.depth = 0 := by
  cases d with
  | list _ => cases h
  | tuple _ => cases h
  | dict _ => cases h
  | _ => rfl
theorem fl_dict {d : D} (h : flB d = true) : d.hasDict = false := by
  cases d with
  | list _ => cases h
  | tuple _ => cases h
  | dict _ => cases h
  | _ => rfl
theorem fl_plain {d : D} (h : flB d = true) : d.plain = true := by
  cases d with
  | list _ => cases h
  | tuple _ => cases h
  | dict _ => cases h
  | _ => rfl
theorem fl_sm {d : D} (h : flB d = true) : SmS d := fun x e => by
  subst e
  have := of_decide_eq_true (Bool.and_eq_true_iff.mp h).1
  rw [sizeLine_eq]
  omega
theorem fls : ∀ {ds : List D}, (∀ x ∈ ds, flB x = true) → PyData.showableAll ds = true ∧ PyData.leavesShortAll 41 ds = true ∧ PyData.bulkAll ds ≤ 1001 * ds.length ∧ PyData.depthAll ds = 0 ∧ PyData.hasDictAll ds = false ∧ PyData.plainAll ds = true
  | [], _ => ⟨rfl, rfl, Nat.le_refl _, rfl, rfl, rfl⟩
  | d :: ds, h => by
    have a := h d (List.mem_cons_self ..)
    obtain ⟨h1, h2, h3, h4, h5, h6⟩ := fls fun x hx => h x (List.mem_cons_of_mem _ hx)
    refine ⟨?_, ?_, ?_, ?_, ?_, ?_⟩
    · rw [PyData.showableAll, fl_show a, h1]; rfl
    · rw [PyData.leavesShortAll, fl_leaf a, h2]; rfl
    · rw [PyData.bulkAll, List.length_cons]
      have := fl_bulk a
      omega
    · rw [PyData.depthAll, fl_depth a, h4]; rfl
    · rw [PyData.hasDictAll, fl_dict a, h5]; rfl
    · rw [PyData.plainAll, fl_plain a, h6]; rfl
theorem rok {d : D} (h1 : d.showable = true) (h2 : flatD d = true) (h3 : d.depth ≤ 100) (h4 : d.shown.length ≤ sizeLine) : rOk d = true := by
  unfold rOk
  rw [h1, h2, decide_eq_true h3, decide_eq_true h4]
  rfl
theorem gd_list {ds : List D} (h : ∀ x ∈ ds, flB x = true) (hl : ds.length ≤ 100) : Gd (.list ds) := by
  obtain ⟨h1, h2, h3, h4, h5, h6⟩ := fls h
  refine ⟨rok h1 (by show (!PyData.hasDictAll ds) = true; rw [h5]; rfl) (by show PyData.depthAll ds + 1 ≤ 100; omega) ?_, nofun, fun ds' e => ?_⟩
  · have := PyData.shown_le_bulk 41 (by decide) (.list ds) h2
    have e : PyData.bulk (.list ds) = PyData.bulkAll ds := rfl
    rw [e] at this
    rw [sizeLine_eq]
    omega
  · cases e
    exact ⟨by rw [sizeLine_eq]; omega, h6, fun x hx => fl_sm (h x hx)⟩
theorem gd_tuple {ds : List D} (h : ∀ x ∈ ds, flB x = true) (hl : ds.length ≤ 100) : Gd (.tuple ds) := by
  obtain ⟨h1, h2, h3, h4, h5, h6⟩ := fls h
  refine ⟨rok h1 (by show (!PyData.hasDictAll ds) = true; rw [h5]; rfl) (by show PyData.depthAll ds + 1 ≤ 100; omega) ?_, nofun, nofun⟩
  have := PyData.shown_le_bulk 41 (by decide) (.tuple ds) h2
  have e : PyData.bulk (.tuple ds) = PyData.bulkAll ds := rfl
  rw [e] at this
  rw [sizeLine_eq]
  omega
theorem gd_fl {d : D} (h : flB d = true) : Gd d := by
  refine ⟨rok (fl_show h) ?_ (by rw [fl_depth h]; decide) ?_, fl_sm h, ?_⟩
  · cases d with
    | list _ => cases h
    | tuple _ => cases h
    | dict _ => cases h
    | _ => rfl
  · have := PyData.shown_le_bulk 41 (by decide) d (fl_leaf h)
    have := fl_bulk h
    rw [sizeLine_eq]
    omega
  · intro ds e
    subst e
    cases h
/-- by computing -/
def smB : D → Bool
  | .str x => decide (x.length ≤ sizeLine)
  | _ => true
theorem smB_ok {d : D} (h : smB d = true) : SmS d := fun x e => by subst e; exact of_decide_eq_true h
def gdB (d : D) : Bool := rOk d && smB d && match d with
  | .list ds => decide (ds.length ≤ sizeLine) && PyData.plainAll ds && ds.all smB
  | _ => true
theorem gdB_ok {d : D} (h : gdB d = true) : Gd d := by
  unfold gdB at h
  simp only [Bool.and_eq_true] at h
  refine ⟨h.1.1, smB_ok h.1.2, fun ds e => ?_⟩
  subst e
  have h2 := h.2
  simp only [Bool.and_eq_true, decide_eq_true_eq] at h2
  exact ⟨h2.1.1, h2.1.2, fun x hx => smB_ok (List.all_eq_true.mp h2.2 x hx)⟩
/-! ### copies -/
def cpR : D → Rv
  | .list ds => .fr ds
  | d => .dat d
theorem cpR_deg (d : D) : deg (cpR d) = .dat d := by cases d <;> rfl
def cpOk : Nat → D → Bool
  | 0, _ => false
  | n + 1, .list ds => decide (ds.length ≤ sizeLine) && ds.all (cpOk n)
  | n + 1, .tuple ds => decide (ds.length ≤ sizeLine) && ds.all (cpOk n)
  | _ + 1, .dict [] => true
  | n + 1, .dict [(.str x, .int _)] => decide (0 < n) && decide (x.length ≤ sizeLine)
  | _ + 1, .dict _ => false
  | _ + 1, _ => true
theorem datOf_iff {r : Rv} {d : D} {Q : D → Prop} (h : deg r = .dat d) : DatOf r Q ↔ Q d := by
  unfold DatOf
  rw [h]
  exact Iff.rfl
theorem copied_eq : ∀ (n : Nat) (d : D) (cs : Cs), cpOk n d = true → recM 3 b__law_copied n [.dat d] cs = some (cpR d, cs)
  | 0, _, _, h => by cases h
  | n + 1, d, cs, h => by
    refine em_eq ?_
    rw [em_rec, em_fnM]
    unfold b__law_copied
    have body : ∀ (ds : List D), ds.length ≤ sizeLine → ds.all (cpOk n) = true → ∀ (d : D) (Q : List D → Cs → Prop), Q ds cs → Ec (gNm 1) mYes (mCallF 1 (recM 3 b__law_copied n) (aCons (xVar 1) aNil)) ds (wipeR [some (.dat d), none, none] [1]) cs [] Q := fun ds hz ha d Q q => by
      refine ec_pure (fun _ => true) id (fun x hx cs' => ?_) (by simpa using hz) (by rw [List.nil_append, List.map_id, List.filter_eq_self.mpr (fun _ _ => rfl)]; exact q)
      simp [wipeR]
      refine em_of (copied_eq n x cs' (List.all_eq_true.mp ha x hx)) ?_
      exact ⟨rfl, (datOf_iff (cpR_deg x)).mpr rfl⟩
    match d, h with
    | .list ds, h =>
      obtain ⟨h1, h2⟩ := Bool.and_eq_true_iff.mp (show (decide (ds.length ≤ sizeLine) && ds.all (cpOk n)) = true from h)
      simp [isi_list]
      refine body ds (of_decide_eq_true h1) h2 _ _ ?_
      simp [cpR]
    | .tuple ds, h =>
      obtain ⟨h1, h2⟩ := Bool.and_eq_true_iff.mp (show (decide (ds.length ≤ sizeLine) && ds.all (cpOk n)) = true from h)
      simp [isi_list, isi_tuple]
      refine body ds (of_decide_eq_true h1) h2 _ _ ?_
      simp [cpR, dTuple]
    | .dict [], h =>
      simp [isi_list, isi_tuple, isi_dict, isFn, itemsOf, dDict, prsOf, cpR]
    | .dict [(.str x, .int i)], h =>
      obtain ⟨h1, h2⟩ := Bool.and_eq_true_iff.mp (show (decide (0 < n) && decide (x.length ≤ sizeLine)) = true from h)
      have h2' : x.length ≤ sizeLine := of_decide_eq_true h2
      have rec1 : ∀ cs' : Cs, recM 3 b__law_copied n [.dat (.int i)] cs' = some (.dat (.int i), cs') := fun cs' => copied_eq n (.int i) cs' (by
        cases n with
        | zero => cases h1
        | succ n => rfl)
      have e1 : dDGet (.dict [(.str x, .int i)]) (.str x) = some (.dat (.int i)) := by
        simp [dDGet, isFn, keyOf, look, eqK]
      simp [isi_list, isi_tuple, isi_dict, isFn, itemsOf, h2']
      refine ec_cons ?_
      simp [wipeR, e1]
      refine em_of (rec1 _) ?_
      have two : 2 ≤ sizeLine := two_fit
      simp [two]
      refine ⟨cs, [], ⟨rfl, rfl⟩, rfl, Nat.lt_of_lt_of_le (by decide) (Nat.le_of_eq sizeLine_eq.symm), ?_⟩
      simp [dDict, prsOf, prOf, keyOf, cpR, kD]
    | .none, h => simp [isi_list, isi_tuple, isi_dict, cpR]
    | .bool b, h => simp [isi_list, isi_tuple, isi_dict, cpR]
    | .int i, h => simp [isi_list, isi_tuple, isi_dict, cpR]
    | .str x, h => simp [isi_list, isi_tuple, isi_dict, cpR]

theorem set_set' {cs : Cs} {k : Nat} {a b : Option (List D)} : (cs.set k a).set k b = cs.set k b := by simp
theorem set_app {cs : Cs} {k : Nat} {a : Option (List D)} {t : Cs} (h : k < cs.length) : (cs ++ t).set k a = cs.set k a ++ t := List.set_append_left _ _ h
theorem get_app {cs t : Cs} {k : Nat} {c : List D} (h : cs[k]? = some (some c)) : (cs ++ t)[k]? = some (some c) := by
  rw [List.getElem?_append_left (List.getElem?_eq_some_iff.mp h).1, h]
theorem get_set {cs : Cs} {k : Nat} {c c' : List D} (h : cs[k]? = some (some c)) : (cs.set k (some c'))[k]? = some (some c') := List.getElem?_set_self (List.getElem?_eq_some_iff.mp h).1
/-- [body for turn in range(n)] where each turn draws: cost w a turn, items as P says -/
theorem draws {k n i w : Nat} {b : Int} {ρ : Rho} {f : ME} {P : D → Prop} {cs : Cs} {c : List D} {Q : List D → Cs → Prop} (hc : cs[k]? = some (some c)) (hg : Gs b c) (hn : n ≤ 1000) (hw : (w : Int) * n + b ≤ 10 ^ 20)
    (hf : ∀ (x : D) (b' : Int) (cs' : Cs) (c' : List D) (Q : Rv → Cs → Prop), b' + w ≤ 10 ^ 20 → cs'[k]? = some (some c') → Gs b' c' → (∀ (d : D) (c2 : List D), P d → Gs (b' + w) c2 → Q (.dat d) (cs'.set k (some c2))) → Ev f (ρ.set i (some (.dat x))) cs' Q)
    (h : ∀ (ds : List D) (c' : List D), ds.length = n → (∀ d ∈ ds, P d) → Gs (b + w * n) c' → Q ds (cs.set k (some c'))) : Ec (gNm i) mYes f (rngD 0 n) ρ cs [] Q := by
  have hk := (List.getElem?_eq_some_iff.mp hc).1
  refine ec_inv (k := 0) (fun j acc cs' => ∃ c', acc.length = j ∧ j ≤ n ∧ (∀ d ∈ acc, P d) ∧ Gs (b + w * j) c' ∧ cs' = cs.set k (some c')) ⟨c, rfl, Nat.zero_le _, by simp, by simpa using hg, ?_⟩ ?_ ?_
  · apply List.ext_getElem?
    intro j
    by_cases hj : k = j
    · subst hj
      rw [List.getElem?_set_self hk, hc]
    · rw [List.getElem?_set_ne hj]
  · rintro j d acc cs' hd ⟨c', e1, e2, e3, e4, rfl⟩
    simp only [Nat.zero_add] at e1 e2 e4 ⊢
    have hj : j < n := by
      have := (List.getElem?_eq_some_iff.mp hd).1
      rw [rng_len] at this
      exact this
    have e5 : (w : Int) * (j + 1 : Nat) ≤ w * n := by
      rw [← Int.natCast_mul, ← Int.natCast_mul]
      exact Int.ofNat_le.mpr (Nat.mul_le_mul_left w hj)
    have e6 : (w : Int) * (j + 1 : Nat) = w * j + w := by
      rw [Int.natCast_add, Int.mul_add]
      simp
    rw [eg_gNm, et_mYes, if_pos rfl]
    refine hf d (b + w * j) _ c' _ (by omega) (get_app (get_set hc)) e4 fun x c2 hx hg2 => ?_
    rw [datOf_dat]
    refine ⟨cs.set k (some c2), acc, ?_, by simp, ?_, c2, by simp [e1], hj, ?_, ?_, rfl⟩
    · rw [set_app (by simpa using hk), set_set']
    · rw [sizeLine_eq]
      omega
    · intro y hy
      rcases List.mem_append.mp hy with h1 | h1
      · exact e3 y h1
      · rw [List.mem_singleton.mp h1]; exact hx
    · exact hg2.mono (by omega)
  · rintro acc cs' ⟨c', e1, e2, e3, e4, rfl⟩
    rw [rng_len, Nat.zero_add] at e1 e4
    exact h acc c' e1 e3 e4
def isI (d : D) : Bool := match d with
  | .int _ => true
  | _ => false
theorem sok {ds : List D} (h : (ds.all isS || ds.all isI) = true) : sOk ds = true := by
  unfold sOk
  rw [Bool.and_eq_true, Bool.and_eq_true, Bool.or_eq_true]
  rw [Bool.or_eq_true] at h
  refine ⟨⟨?_, .inr ?_⟩, ?_⟩
  · rw [List.all_eq_true]
    intro d hd
    rw [List.all_eq_true]
    intro e he
    rcases h with h | h
    · have h1 := List.all_eq_true.mp h d hd
      have h2 := List.all_eq_true.mp h e he
      cases d <;> cases e <;> first | rfl | (cases h1; done) | (cases h2; done)
    · have h1 := List.all_eq_true.mp h d hd
      have h2 := List.all_eq_true.mp h e he
      cases d <;> cases e <;> first | rfl | (cases h1; done) | (cases h2; done)
  · rw [List.all_eq_true]
    intro d hd
    rcases h with h | h
    · have h1 := List.all_eq_true.mp h d hd
      cases d <;> first | rfl | (cases h1; done)
    · have h1 := List.all_eq_true.mp h d hd
      cases d <;> first | rfl | (cases h1; done)
  · rw [List.all_eq_true]
    intro d hd
    refine decide_eq_true ?_
    rcases h with h | h
    · have h1 := List.all_eq_true.mp h d hd
      cases d <;> first | exact Nat.zero_le _ | (cases h1; done)
    · have h1 := List.all_eq_true.mp h d hd
      cases d <;> first | exact Nat.zero_le _ | (cases h1; done)
theorem srt_mem {ds : List D} {d : D} : d ∈ srt ds ↔ d ∈ ds := List.mem_mergeSort
theorem srt_len {ds : List D} : (srt ds).length = ds.length := List.length_mergeSort ds
def menuD : List D := [.none, .bool true, .bool false, .int 0, .int 1, .int (-1), .int 100000000000, .str "", .str "a", .str "A", .str "ab", .str "a b", .str "1a", .str "a1", .str " ", .str "a\n", .str (Txt.mul "z" 20), .str (Txt.mul "z" 21), .str "abcdefgh", .str "abcdefghi",
  .list [], .tuple [], .dict [], .list [.int 0], .list [.int 1, .int 0], .list [.int 0, .str "a"], .list [.str "a", .int 0], .list [.none, .int 0], .list [.int 0, .list [.int 1]], .list [.int 0, .tuple [.int 1]], .list [.bool true], .list [.int 0, .int 1], .list [.int 0, .int 0], .tuple [.int 0, .int 1], .list [.str "a"], .list [.list []],
  .dict [(.str "a", .int 1)], .list [.int 1, .int 2, .int 100000000000], .list [.int (-1)], .str "a_b", .str "aB", .str (Txt.mul "a" 200), .str "e0", .str "0", .str "house", .tuple [.str "house"]]
theorem menu_ok : menuD.all (fun d => gdB d && cpOk 6 d) = true := by decide +kernel
theorem dMul_str {z : Str} {k : Int} : dMul (.str z) (.int k) = if 0 ≤ k ∧ k < 2 ^ 31 ∧ z.length * k.toNat ≤ 16777216 then some (.dat (.str (Txt.mul z k))) else none := rfl
theorem mul_z20 : dMul (.str "z") (.int 20) = some (.dat (.str (Txt.mul "z" 20))) := by rw [dMul_str, if_pos (by decide +kernel)]
theorem mul_z21 : dMul (.str "z") (.int 21) = some (.dat (.str (Txt.mul "z" 21))) := by rw [dMul_str, if_pos (by decide +kernel)]
theorem mul_a200 : dMul (.str "a") (.int 200) = some (.dat (.str (Txt.mul "a" 200))) := by rw [dMul_str, if_pos (by decide +kernel)]
theorem dNeg_int {i : Int} : dNeg (.int i) = some (.dat (.int (-i))) := rfl
theorem dPow_11 : dPow (.int 10) (.int 11) = some (.dat (.int 100000000000)) := by
  show (if CPw 10 11 then some (di (10 ^ (11 : Int).toNat)) else none) = _
  rw [if_pos (by decide)]
  rfl
theorem dAdd_list {x y : List D} : dAdd (.list x) (.list y) = if x.length + y.length ≤ sizeLine then some (.fr (x ++ y)) else none := rfl
theorem le_size {n : Nat} (h : n ≤ 16777216) : n ≤ sizeLine := by rw [sizeLine_eq]; exact h
theorem ret_cp {d : D} {n : Nat} {cs : Cs} {Q : Rv → Cs → Prop} (hl : cs.length = n) (q : Q (cpR d) cs) : Ret n (cpR d) cs (DL.Fin n Q) := by
  subst hl
  cases d with
  | list ds =>
    show Ret _ (.fr ds) _ _
    simp
    exact q
  | _ =>
    show Ret _ (.dat _) _ _
    simp
    exact q
theorem any_em {k : Nat} {b : Int} {cs : Cs} {c : List D} {Q : Rv → Cs → Prop} (hc : cs[k]? = some (some c)) (hg : Gs b c) (hb : b ≤ 10 ^ 19) (h : ∀ (d : D) (c' : List D), Gd d → Gs (b + 100) c' → Q (cpR d) (cs.set k (some c'))) : Em m__law_any [.own k] cs Q := by
  unfold m__law_any
  rw [em_fnM]
  unfold b__law_any
  simp [mul_z20, mul_z21, mul_a200, dNeg_int, dPow_11, dAdd_list, le_size]
  refine pick_em hc hg (by omega) (by simp) (by simp) fun d c2 hd g2 => ?_
  have hm : d ∈ menuD := hd
  have hd' := List.all_eq_true.mp menu_ok d hm
  rw [Bool.and_eq_true] at hd'
  simp only [deg_dat]
  refine em_of (copied_eq 6 d _ hd'.2) ?_
  exact ret_cp (by simp) (h d c2 (gdB_ok hd'.1) g2)

end My
namespace My
open PySem PySem.Spec PyProof.Rows L2 DL
/-! small trees of plain things -/
def tl : D → Bool
  | .none => true
  | .bool _ => true
  | .int i => decide (i.natAbs < 10 ^ 40)
  | .str x => decide (x.length ≤ 10) && x.cps.toList.all fun c => decide (c < 16 ^ 8)
  | _ => false
def tn : Nat → D → Bool
  | n + 1, .list ds => decide (ds.length ≤ 8) && ds.all (tn n)
  | n + 1, .tuple ds => decide (ds.length ≤ 8) && ds.all (tn n)
  | _, d => tl d
theorem tl_fl {d : D} (h : tl d = true) : flB d = true := by
  cases d with
  | str x =>
    obtain ⟨h1, h2⟩ := Bool.and_eq_true_iff.mp h
    have h1' := of_decide_eq_true h1
    show (decide (x.length ≤ 1000) && _) = true
    rw [decide_eq_true (by omega), h2]
    rfl
  | list _ => cases h
  | tuple _ => cases h
  | dict _ => cases h
  | int i => exact h
  | _ => rfl
theorem tl_bulk {d : D} (h : tl d = true) : d.bulk ≤ 10 := by
  cases d with
  | str x => exact of_decide_eq_true (Bool.and_eq_true_iff.mp h).1
  | list _ => cases h
  | tuple _ => cases h
  | dict _ => cases h
  | _ => exact Nat.zero_le _
theorem tn_leaf {d : D} (h : tl d = true) : ∀ n, tn n d = true
  | 0 => by unfold tn; exact h
  | n + 1 => by
    cases d with
    | list _ => cases h
    | tuple _ => cases h
    | _ => exact h
structure TF (n b : Nat) (x : D) : Prop where
  s : x.showable = true
  l : x.leavesShort 41 = true
  b : x.bulk ≤ b
  d : x.depth ≤ n
  h : x.hasDict = false
  p : x.plain = true
theorem tf_leaf {d : D} (h : tl d = true) {n : Nat} : TF n 10 d := by
  have f := tl_fl h
  exact ⟨fl_show f, fl_leaf f, tl_bulk h, by rw [fl_depth f]; exact Nat.zero_le _, fl_dict f, fl_plain f⟩
theorem tf_all {n b : Nat} : ∀ {ds : List D}, (∀ x ∈ ds, TF n b x) → PyData.showableAll ds = true ∧ PyData.leavesShortAll 41 ds = true ∧ PyData.bulkAll ds ≤ (b + 1) * ds.length ∧ PyData.depthAll ds ≤ n ∧ PyData.hasDictAll ds = false ∧ PyData.plainAll ds = true
  | [], _ => ⟨rfl, rfl, Nat.le_refl _, Nat.zero_le _, rfl, rfl⟩
  | d :: ds, h => by
    have a := h d (List.mem_cons_self ..)
    obtain ⟨h1, h2, h3, h4, h5, h6⟩ := tf_all fun x hx => h x (List.mem_cons_of_mem _ hx)
    refine ⟨?_, ?_, ?_, ?_, ?_, ?_⟩
    · rw [PyData.showableAll, a.s, h1]; rfl
    · rw [PyData.leavesShortAll, a.l, h2]; rfl
    · rw [PyData.bulkAll, List.length_cons, Nat.mul_add, Nat.mul_one]
      have := a.b
      omega
    · rw [PyData.depthAll]
      exact Nat.max_le.mpr ⟨a.d, h4⟩
    · rw [PyData.hasDictAll, a.h, h5]; rfl
    · rw [PyData.plainAll, a.p, h6]; rfl
def tB : Nat → Nat
  | 0 => 10
  | n + 1 => 8 * (tB n + 1)
theorem tB_le : ∀ n, 10 ≤ tB n
  | 0 => Nat.le_refl _
  | n + 1 => by
    have := tB_le n
    show 10 ≤ 8 * (tB n + 1)
    omega
theorem TF.mono {n b n' b' : Nat} {d : D} (t : TF n b d) (h1 : n ≤ n') (h2 : b ≤ b') : TF n' b' d := ⟨t.s, t.l, Nat.le_trans t.b h2, Nat.le_trans t.d h1, t.h, t.p⟩
theorem tf_of : ∀ (n : Nat) (d : D), tn n d = true → TF n (tB n) d
  | 0, d, h => by
    unfold tn at h
    exact tf_leaf h
  | n + 1, .list ds, h => by
    obtain ⟨h1, h2⟩ := Bool.and_eq_true_iff.mp (show (decide (ds.length ≤ 8) && ds.all (tn n)) = true from h)
    have h1 := of_decide_eq_true h1
    obtain ⟨a1, a2, a3, a4, a5, a6⟩ := tf_all (n := n) (b := tB n) (ds := ds) fun x hx => tf_of n x (List.all_eq_true.mp h2 x hx)
    refine ⟨a1, a2, ?_, by show PyData.depthAll ds + 1 ≤ n + 1; omega, a5, a6⟩
    have e : (tB n + 1) * ds.length ≤ (tB n + 1) * 8 := Nat.mul_le_mul_left _ h1
    show PyData.bulkAll ds ≤ 8 * (tB n + 1)
    omega
  | n + 1, .tuple ds, h => by
    obtain ⟨h1, h2⟩ := Bool.and_eq_true_iff.mp (show (decide (ds.length ≤ 8) && ds.all (tn n)) = true from h)
    have h1 := of_decide_eq_true h1
    obtain ⟨a1, a2, a3, a4, a5, a6⟩ := tf_all (n := n) (b := tB n) (ds := ds) fun x hx => tf_of n x (List.all_eq_true.mp h2 x hx)
    refine ⟨a1, a2, ?_, by show PyData.depthAll ds + 1 ≤ n + 1; omega, a5, a6⟩
    have e : (tB n + 1) * ds.length ≤ (tB n + 1) * 8 := Nat.mul_le_mul_left _ h1
    show PyData.bulkAll ds ≤ 8 * (tB n + 1)
    omega
  | n + 1, .none, h => (tf_leaf (d := .none) rfl).mono (Nat.le_refl _) (tB_le _)
  | n + 1, .bool b, h => (tf_leaf (d := .bool b) rfl).mono (Nat.le_refl _) (tB_le _)
  | n + 1, .int i, h => (tf_leaf (d := .int i) h).mono (Nat.le_refl _) (tB_le _)
  | n + 1, .str x, h => (tf_leaf (d := .str x) h).mono (Nat.le_refl _) (tB_le _)
  | n + 1, .dict _, h => by cases h
theorem tn_rok {n : Nat} {d : D} (h : tn n d = true) (hn : n ≤ 4) : rOk d = true := by
  have t := tf_of n d h
  have hb : tB n ≤ 45640 := by
    match n, hn with
    | 0, _ => decide
    | 1, _ => decide
    | 2, _ => decide
    | 3, _ => decide
    | 4, _ => decide
  refine rok t.s ?_ (Nat.le_trans t.d (by omega)) ?_
  · have := t.h
    cases d with
    | dict kvs => cases this
    | list ds => show (!PyData.hasDict (.list ds)) = true; rw [this]; rfl
    | tuple ds => show (!PyData.hasDict (.tuple ds)) = true; rw [this]; rfl
    | _ => rfl
  · have := PyData.shown_le_bulk 41 (by decide) d t.l
    have := t.b
    rw [sizeLine_eq]
    omega
theorem tn_mono : ∀ (n : Nat) (d : D), tn n d = true → tn (n + 1) d = true
  | 0, d, h => by
    unfold tn at h
    exact tn_leaf h 1
  | n + 1, .list ds, h => by
    obtain ⟨h1, h2⟩ := Bool.and_eq_true_iff.mp (show (decide (ds.length ≤ 8) && ds.all (tn n)) = true from h)
    show (decide (ds.length ≤ 8) && ds.all (tn (n + 1))) = true
    rw [h1, List.all_eq_true.mpr fun x hx => tn_mono n x (List.all_eq_true.mp h2 x hx)]
    rfl
  | n + 1, .tuple ds, h => by
    obtain ⟨h1, h2⟩ := Bool.and_eq_true_iff.mp (show (decide (ds.length ≤ 8) && ds.all (tn n)) = true from h)
    show (decide (ds.length ≤ 8) && ds.all (tn (n + 1))) = true
    rw [h1, List.all_eq_true.mpr fun x hx => tn_mono n x (List.all_eq_true.mp h2 x hx)]
    rfl
  | n + 1, .none, h => rfl
  | n + 1, .bool b, h => rfl
  | n + 1, .int i, h => h
  | n + 1, .str x, h => h
  | n + 1, .dict _, h => by cases h
theorem tn_tup {n : Nat} {ds : List D} : tn (n + 1) (.tuple ds) = (decide (ds.length ≤ 8) && ds.all (tn n)) := by unfold tn; rfl
theorem tn_lst {n : Nat} {ds : List D} : tn (n + 1) (.list ds) = (decide (ds.length ≤ 8) && ds.all (tn n)) := by unfold tn; rfl
theorem dNe_refl {d : D} (h : d.plain = true) (hd : d.depth ≤ 100) : dNe d d = some (db false) := by
  unfold dNe
  rw [if_pos ⟨h, h, Nat.le_trans (Nat.min_le_left _ _) hd⟩, SeqAt.eqv_refl_plain d h]
  rfl
theorem dEq_refl {d : D} (h : d.plain = true) (hd : d.depth ≤ 100) : dEq d d = some (db true) := by
  unfold dEq
  rw [if_pos ⟨h, h, Nat.le_trans (Nat.min_le_left _ _) hd⟩, SeqAt.eqv_refl_plain d h]
theorem emx_eq {m : MFX} {rs : List Rv} {cs : Cs} {y : RX} (h : Emx m rs cs fun x => x = y) : m rs cs = some y := by
  obtain ⟨a, e, rfl⟩ := wpd_iff.mp h
  exact e
theorem emx_of {m : MFX} {rs : List Rv} {cs : Cs} {y : RX} {Q : RX → Prop} (e : m rs cs = some y) (h : Q y) : Emx m rs cs Q := by
  unfold Emx
  rw [e]
  exact h
theorem okM_of {m : MFX} {rs : List Rv} {cs cs' : Cs} {r : Rv} (e : m rs cs = some (.ok r cs')) : okM m rs cs = some (r, cs') := by
  unfold okM
  rw [e]
  rfl
theorem dNe_str {x y : Str} : dNe (.str x) (.str y) = some (db (!(x == y))) := by
  unfold dNe
  rw [if_pos ⟨rfl, rfl, by show min 0 0 ≤ 100; decide⟩]
  rfl
theorem is1 {d : D} : dIs not d .none = some (db (!isNonD d)) := by cases d <;> rfl
theorem is0 {d : D} : dIs id d .none = some (db (isNonD d)) := by cases d <;> rfl
end My
namespace My
open PySem PySem.Spec PyProof.Rows L2 DL
def b_is_line_told : MS :=
  (sRet (mAnd (mU (dIsi "tuple") (xVar 0)) (mAnd (mB dEq (mCall dLen (aCons (xVar 0) aNil)) (xC (.int 3))) (mCall dAll (aCons (xComp (iSeq (xVar 0)) (gNm 1) mYes (mCallF 1 m_is_whole (aCons (xVar 1) aNil)) [1]) aNil)))))
def m_is_line_told : MF := fnM 2 b_is_line_told
noncomputable def b_is_rising_start : MS :=
  (sRet (mAnd (mCallF 1 m_is_fraction (aCons (xVar 0) aNil)) (mChain (fun i j => decide (i < j)) (fun i j => decide (i ≤ j)) (xC (.int 0)) (mB dIx (xVar 0) (xC (.int 0))) (mB dIx (xVar 0) (xC (.int 1))))))
noncomputable def m_is_rising_start : MF := fnM 1 b_is_rising_start
noncomputable def b_is_factor : MS :=
  (sSeq (sIf (mTOr (mTNot (mTru (mU (dIsi "tuple") (xVar 0)))) (mTOr (mTB (mB dNe (mCall dLen (aCons (xVar 0) aNil)) (xC (.int 3)))) (mTOr (mTNot (mTru (mCallF 1 m_is_rising_start (aCons (mB dIx (xVar 0) (xC (.int 0))) aNil)))) (mTNot (mTru (mCallF 1 m_is_line_told (aCons (mB dIx (xVar 0) (xC (.int 1))) aNil))))))) (sRet (xC (.bool false))) sNil)
  (sRet (mAnd (mCallF 1 m_is_whole (aCons (mB dIx (xVar 0) (xC (.int 2))) aNil)) (mB dIn (mB dIx (xVar 0) (xC (.int 2))) (xTup (aCons (xC (.int 1)) (aCons (mU dNeg (xC (.int 1))) aNil)))))))
noncomputable def m_is_factor : MF := fnM 1 b_is_factor
def b_rising_parts : MS :=
  (sSeq (sAsg (xTup (aCons (xC (.int 1)) (aCons (xC (.int 1)) aNil))) (gTp 2 (gsCons (gNm 3) (gsCons (gNm 4) gsNil))))
  (sSeq (sFor (iRg1 (aCons (mCall dAbs (aCons (xVar 1) aNil)) aNil)) (gNm 2) (sIf (mTB (mB dGe (xVar 1) (xC (.int 0)))) (sParO 3 4 (aDat (mB dMul (xVar 3) (mB dAdd (mB dIx (xVar 0) (xC (.int 0))) (mB dMul (xVar 2) (mB dIx (xVar 0) (xC (.int 1)))))) (aDat (mB dMul (xVar 4) (mB dIx (xVar 0) (xC (.int 1)))) aNil))) (sParO 3 4 (aDat (mB dMul (xVar 3) (mB dIx (xVar 0) (xC (.int 1)))) (aDat (mB dMul (xVar 4) (mB dSub (mB dIx (xVar 0) (xC (.int 0))) (mB dMul (mB dAdd (xVar 2) (xC (.int 1))) (mB dIx (xVar 0) (xC (.int 1)))))) aNil)))))
  (sRet (xTup (aCons (xVar 3) (aCons (xVar 4) aNil))))))
def m_rising_parts : MF := fnM 5 b_rising_parts
def b__law_common : MS :=
  (sSeq (sParO 0 1 (aDat (mCall dAbs (aCons (xVar 0) aNil)) (aDat (mCall dAbs (aCons (xVar 1) aNil)) aNil)))
  (sSeq (sFor (iRg1 (aCons (mB dAdd (xC (.int 4)) (mB dMul (xC (.int 4)) (mU dBits (mB dAdd (xVar 0) (xVar 1))))) aNil)) (gNm 2) (sIf (mTB (mB dGt (xVar 1) (xC (.int 0)))) (sParO 0 1 (aDat (xVar 1) (aDat (mB dMod (mCall dInt (aCons (xVar 0) aNil)) (xVar 1)) aNil))) sNil))
  (sRet (xVar 0))))
def m__law_common : MF := fnM 3 b__law_common
def b__law_low : MS :=
  (sSeq (sSet 2 (mCallF 2 m__law_common (aCons (xVar 0) (aCons (xVar 1) aNil))))
  (sSeq (sSet 2 (mIf (mTB (mB dGt (xVar 1) (xC (.int 0)))) (xVar 2) (mB dSub (xC (.int 0)) (xVar 2))))
  (sRet (xTup (aCons (mB dDiv (xVar 0) (xVar 2)) (aCons (mB dDiv (xVar 1) (xVar 2)) aNil))))))
def m__law_low : MF := fnM 3 b__law_low
def b__law_times : MS :=
  (sRet (mCallF 2 m__law_low (aCons (mB dMul (mB dIx (xVar 0) (xC (.int 0))) (mB dIx (xVar 1) (xC (.int 0)))) (aCons (mB dMul (mB dIx (xVar 0) (xC (.int 1))) (mB dIx (xVar 1) (xC (.int 1)))) aNil))))
def m__law_times : MF := fnM 2 b__law_times
def b__law_is_whole : MS :=
  (sRet (mAnd (mU (dIsi "int") (xVar 0)) (mU dNot (mU (dIsi "bool") (xVar 0)))))
def m__law_is_whole : MF := fnM 1 b__law_is_whole
def b__law_is_fraction : MS :=
  (sSeq (sIf (mTOr (mTNot (mTru (mU (dIsi "tuple") (xVar 0)))) (mTOr (mTB (mB dNe (mCall dLen (aCons (xVar 0) aNil)) (xC (.int 2)))) (mTOr (mTNot (mTru (mCallF 1 m__law_is_whole (aCons (mB dIx (xVar 0) (xC (.int 0))) aNil)))) (mTNot (mTru (mCallF 1 m__law_is_whole (aCons (mB dIx (xVar 0) (xC (.int 1))) aNil))))))) (sRet (xC (.bool false))) sNil)
  (sRet (mAnd (mB dGt (mB dIx (xVar 0) (xC (.int 1))) (xC (.int 0))) (mB dEq (mCallF 2 m__law_common (aCons (mB dIx (xVar 0) (xC (.int 0))) (aCons (mB dIx (xVar 0) (xC (.int 1))) aNil))) (xC (.int 1))))))
def m__law_is_fraction : MF := fnM 1 b__law_is_fraction
def b__law_rising : MS :=
  (sSeq (sIf (mTAnd (mTB (mB dEq (xVar 0) (xTup (aCons (xC (.int 1)) (aCons (xC (.int 1)) aNil))))) (mTB (mB dLt (xVar 1) (xC (.int 0))))) (sRet (xC .none)) sNil)
  (sSeq (sSet 2 (xTup (aCons (xC (.int 1)) (aCons (xC (.int 1)) aNil))))
  (sSeq (sFor (iRg1 (aCons (mCall dAbs (aCons (xVar 1) aNil)) aNil)) (gNm 3) (sSeq (sSet 4 (mIf (mTB (mB dGe (xVar 1) (xC (.int 0)))) (xTup (aCons (mB dAdd (mB dIx (xVar 0) (xC (.int 0))) (mB dMul (xVar 3) (mB dIx (xVar 0) (xC (.int 1))))) (aCons (mB dIx (xVar 0) (xC (.int 1))) aNil))) (xTup (aCons (mB dIx (xVar 0) (xC (.int 1))) (aCons (mB dSub (mB dIx (xVar 0) (xC (.int 0))) (mB dMul (mB dAdd (xVar 3) (xC (.int 1))) (mB dIx (xVar 0) (xC (.int 1))))) aNil)))))
  (sSet 2 (mCallF 2 m__law_low (aCons (mB dMul (mB dIx (xVar 2) (xC (.int 0))) (mB dIx (xVar 4) (xC (.int 0)))) (aCons (mB dMul (mB dIx (xVar 2) (xC (.int 1))) (mB dIx (xVar 4) (xC (.int 1)))) aNil))))))
  (sRet (xVar 2)))))
def m__law_rising : MF := fnM 5 b__law_rising
def b__law_is_line : MS :=
  (sRet (mAnd (mU (dIsi "tuple") (xVar 0)) (mAnd (mB dEq (mCall dLen (aCons (xVar 0) aNil)) (xC (.int 3))) (mB dEq (xComp (iSeq (xVar 0)) (gNm 1) (mTNot (mTru (mCallF 1 m__law_is_whole (aCons (xVar 1) aNil)))) (xVar 1) [1]) (xLst aNil)))))
def m__law_is_line : MF := fnM 2 b__law_is_line
def b__law_is_factor : MS :=
  (sSeq (sIf (mTOr (mTNot (mTru (mU (dIsi "tuple") (xVar 0)))) (mTOr (mTB (mB dNe (mCall dLen (aCons (xVar 0) aNil)) (xC (.int 3)))) (mTOr (mTNot (mTru (mCallF 1 m__law_is_fraction (aCons (mB dIx (xVar 0) (xC (.int 0))) aNil)))) (mTNot (mTru (mCallF 1 m__law_is_line (aCons (mB dIx (xVar 0) (xC (.int 1))) aNil))))))) (sRet (xC (.bool false))) sNil)
  (sRet (mAnd (mChain (fun i j => decide (i < j)) (fun i j => decide (i ≤ j)) (xC (.int 0)) (mB dIx (mB dIx (xVar 0) (xC (.int 0))) (xC (.int 0))) (mB dIx (mB dIx (xVar 0) (xC (.int 0))) (xC (.int 1)))) (mAnd (mCallF 1 m__law_is_whole (aCons (mB dIx (xVar 0) (xC (.int 2))) aNil)) (mB dIn (mB dIx (xVar 0) (xC (.int 2))) (xLst (aCons (xC (.int 1)) (aCons (mB dSub (xC (.int 0)) (xC (.int 1))) aNil))))))))
def m__law_is_factor : MF := fnM 1 b__law_is_factor
def b__law_start : MS :=
  (sRet (mCallF 2 m__law_pick (aCons (xVar 0) (aCons (xLst (aCons (xTup (aCons (xC (.int 1)) (aCons (xC (.int 1)) aNil))) (aCons (xTup (aCons (xC (.int 1)) (aCons (xC (.int 1)) aNil))) (aCons (xTup (aCons (xC (.int 1)) (aCons (xC (.int 1)) aNil))) (aCons (xTup (aCons (xC (.int 1)) (aCons (xC (.int 2)) aNil))) (aCons (xTup (aCons (xC (.int 1)) (aCons (xC (.int 3)) aNil))) (aCons (xTup (aCons (xC (.int 2)) (aCons (xC (.int 3)) aNil))) (aCons (xTup (aCons (xC (.int 1)) (aCons (xC (.int 4)) aNil))) aNil)))))))) aNil))))
def m__law_start : MF := fnM 1 b__law_start
def b__law_raw_factor : MS :=
  (sSeq (sSet 2 (xTup (aCons (mB dSub (mCallF 2 m__law_random (aCons (xVar 0) (aCons (xC (.int 7)) aNil))) (xC (.int 3))) (aCons (mB dMul (mB dSub (mCallF 2 m__law_random (aCons (xVar 0) (aCons (xC (.int 7)) aNil))) (xC (.int 3))) (xVar 1)) (aCons (mB dSub (mCallF 2 m__law_random (aCons (xVar 0) (aCons (xC (.int 7)) aNil))) (xC (.int 3))) aNil)))))
  (sRet (xTup (aCons (mCallF 1 m__law_start (aCons (xVar 0) aNil)) (aCons (xVar 2) (aCons (mCallF 2 m__law_pick (aCons (xVar 0) (aCons (xLst (aCons (xC (.int 1)) (aCons (mB dSub (xC (.int 0)) (xC (.int 1))) aNil))) aNil))) aNil))))))
def m__law_raw_factor : MF := fnM 3 b__law_raw_factor
def b_is_count : MS :=
  (sRet (mAnd (mCallF 1 m_is_whole (aCons (xVar 0) aNil)) (mB dGe (xVar 0) (xC (.int 0)))))
def m_is_count : MF := fnM 1 b_is_count
def b_check_number : MX :=
  (xIf (mTNot (mTru (mCallF 1 m_is_count (aCons (xVar 0) aNil)))) (xRaise "InvalidNumber" (xVar 0)) xNil)
def m_check_number : MFX := fnX 1 b_check_number
def b_is_poly : MS :=
  (sSeq (sIf (mTOr (mTNot (mTru (mU (dIsi "list") (xVar 0)))) (mTNot (mTru (mCall dAll (aCons (xComp (iSeq (xVar 0)) (gNm 1) mYes (mCallF 1 m_is_whole (aCons (xVar 1) aNil)) [1]) aNil))))) (sRet (xC (.bool false))) sNil)
  (sRet (mOr (mB dEq (xVar 0) (xLst aNil)) (mB dNe (mB dIx (xVar 0) (mU dNeg (xC (.int 1)))) (xC (.int 0))))))
def m_is_poly : MF := fnM 2 b_is_poly
noncomputable def b_cut_poly : MS :=
  (sSeq (sSet 1 (mCall dLen (aCons (xVar 0) aNil)))
  (sSeq (sWh (mTAnd (mTB (mB dGt (xVar 1) (xC (.int 0)))) (mTB (mB dEq (mB dIx (xVar 0) (mB dSub (xVar 1) (xC (.int 1)))) (xC (.int 0))))) (sSet 1 (mB dSub (xVar 1) (xC (.int 1)))))
  (sRet (mSl (xVar 0) oNone (oSome (xVar 1))))))
noncomputable def m_cut_poly : MF := fnM 2 b_cut_poly
def b_worth_in : MS :=
  (sSeq (sSet 2 (xC (.int 0)))
  (sSeq (sFor (iSeq (mU dRev (xVar 0))) (gNm 3) (sSet 2 (mB dAdd (mB dMul (xVar 2) (xVar 1)) (xVar 3))))
  (sRet (xVar 2))))
def m_worth_in : MF := fnM 4 b_worth_in
def b_power_in : MS :=
  (sSeq (sSet 2 (xC (.int 1)))
  (sSeq (sFor (iRg1 (aCons (xVar 1) aNil)) (gNm 3) (sSet 2 (mB dMul (xVar 2) (xVar 0))))
  (sRet (xVar 2))))
def m_power_in : MF := fnM 4 b_power_in
def b_is_double : MS :=
  (sSeq (sIf (mTOr (mTNot (mTru (mU (dIsi "list") (xVar 0)))) (mTNot (mTru (mCall dAll (aCons (xComp (iSeq (xVar 0)) (gNm 1) mYes (mCallF 1 m_is_poly (aCons (xVar 1) aNil)) [1]) aNil))))) (sRet (xC (.bool false))) sNil)
  (sRet (mOr (mB dEq (xVar 0) (xLst aNil)) (mB dNe (mB dIx (xVar 0) (mU dNeg (xC (.int 1)))) (xLst aNil)))))
def m_is_double : MF := fnM 2 b_is_double
noncomputable def b_worths_of_parts : MS :=
  (sRet (mCallF 1 m_cut_poly (aCons (xComp (iSeq (xVar 0)) (gNm 2) mYes (mCallF 2 m_worth_in (aCons (xVar 2) (aCons (xVar 1) aNil))) [2]) aNil)))
noncomputable def m_worths_of_parts : MF := fnM 3 b_worths_of_parts
noncomputable def b_are_factors : MS :=
  (sSeq (sIf (mTOr (mTNot (mTru (mU (dIsi "list") (xVar 0)))) (mTNot (mTru (mCall dAll (aCons (xComp (iSeq (xVar 0)) (gNm 3) mYes (mCallF 1 m_is_factor (aCons (xVar 3) aNil)) [3]) aNil))))) (sRet (xC (.bool false))) sNil)
  (sRet (mCall dAll (aCons (xComp (iZp (aCons (xVar 0) (aCons (mSl (xVar 0) (oSome (xC (.int 1))) oNone) aNil))) (gTp 2 (gsCons (gNm 1) (gsCons (gNm 2) gsNil))) mYes (mB dLe (xVar 1) (xVar 2)) [1, 2]) aNil))))
noncomputable def m_are_factors : MF := fnM 4 b_are_factors
def b_line_worth : MS :=
  (sRet (mB dAdd (mB dAdd (mB dMul (mB dIx (xVar 0) (xC (.int 0))) (xVar 1)) (mB dMul (mB dIx (xVar 0) (xC (.int 1))) (xVar 2))) (mB dIx (xVar 0) (xC (.int 2)))))
def m_line_worth : MF := fnM 3 b_line_worth
def b_whole_lines : MS :=
  (sRet (xComp (iSeq (xVar 0)) (gTp 3 (gsCons (gNm 2) (gsCons (gNm 3) (gsCons (gNm 4) gsNil)))) (mTAnd (mTB (mB dEq (xVar 2) (xC (.tuple [(.int 1), (.int 1)])))) (mTB (mB dEq (xVar 4) (xVar 1)))) (xVar 3) [2, 3, 4]))
def m_whole_lines : MF := fnM 5 b_whole_lines
def b_is_cut : MS :=
  (sRet (mCall dAny (aCons (xComp (iSeq (mCallF 2 m_whole_lines (aCons (xVar 0) (aCons (mU dNeg (xC (.int 1))) aNil)))) (gNm 3) mYes (mB dLt (mCallF 3 m_line_worth (aCons (xVar 3) (aCons (xVar 1) (aCons (xVar 2) aNil)))) (xC (.int 0))) [3]) aNil)))
def m_is_cut : MF := fnM 4 b_is_cut
def b_factors_worth : MS :=
  (sSeq (sAsg (xTup (aCons (xC (.int 1)) (aCons (xC (.int 1)) aNil))) (gTp 2 (gsCons (gNm 3) (gsCons (gNm 4) gsNil))))
  (sSeq (sFor (iSeq (xVar 0)) (gTp 3 (gsCons (gNm 5) (gsCons (gNm 6) (gsCons (gNm 7) gsNil)))) (sSeq (sAsg (mCallF 2 m_rising_parts (aCons (xVar 5) (aCons (mCallF 3 m_line_worth (aCons (xVar 6) (aCons (xVar 1) (aCons (xVar 2) aNil)))) aNil))) (gTp 2 (gsCons (gNm 8) (gsCons (gNm 9) gsNil))))
  (sAsg (mIf (mTB (mB dEq (xVar 7) (xC (.int 1)))) (xTup (aCons (mB dMul (xVar 3) (xVar 8)) (aCons (mB dMul (xVar 4) (xVar 9)) aNil))) (xTup (aCons (mB dMul (xVar 3) (xVar 9)) (aCons (mB dMul (xVar 4) (xVar 8)) aNil)))) (gTp 2 (gsCons (gNm 3) (gsCons (gNm 4) gsNil))))))
  (sRet (xTup (aCons (xVar 3) (aCons (xVar 4) aNil))))))
def m_factors_worth : MF := fnM 10 b_factors_worth
def b_power_parts : MS :=
  (sSeq (sAsg (mIf (mTB (mB dGe (xVar 1) (xC (.int 0)))) (xVar 0) (xTup (aCons (mB dIx (xVar 0) (xC (.int 1))) (aCons (mB dIx (xVar 0) (xC (.int 0))) aNil)))) (gTp 2 (gsCons (gNm 2) (gsCons (gNm 3) gsNil))))
  (sRet (xTup (aCons (mCallF 2 m_power_in (aCons (xVar 2) (aCons (mCall dAbs (aCons (xVar 1) aNil)) aNil))) (aCons (mCallF 2 m_power_in (aCons (xVar 3) (aCons (mCall dAbs (aCons (xVar 1) aNil)) aNil))) aNil)))))
def m_power_parts : MF := fnM 4 b_power_parts
noncomputable def b_has_double_form : MS :=
  (sSeq (sIf (mTOr (mTNot (mTru (mU (dIsi "tuple") (xVar 0)))) (mTOr (mTB (mB dNe (mCall dLen (aCons (xVar 0) aNil)) (xC (.int 5)))) (mTOr (mTNot (mTru (mU (dIsi "str") (mB dIx (xVar 0) (xC (.int 0)))))) (mTB (mB dNe (mB dIx (xVar 0) (xC (.int 0))) (xC (.str "double"))))))) (sRet (xC (.bool false))) sNil)
  (sSeq (sIf (mTOr (mTNot (mTru (mCallF 1 m_is_double (aCons (mB dIx (xVar 0) (xC (.int 1))) aNil)))) (mTNot (mTru (mCallF 1 m_are_factors (aCons (mB dIx (xVar 0) (xC (.int 4))) aNil))))) (sRet (xC (.bool false))) sNil)
  (sRet (mCall dAll (aCons (xComp (iSeq (mSl (xVar 0) (oSome (xC (.int 2))) (oSome (xC (.int 4))))) (gNm 1) mYes (mAnd (mCallF 1 m_is_fraction (aCons (xVar 1) aNil)) (mB dNe (mB dIx (xVar 1) (xC (.int 0))) (xC (.int 0)))) [1]) aNil)))))
noncomputable def m_has_double_form : MF := fnM 2 b_has_double_form
noncomputable def b_check_double_term : MX :=
  (xIf (mTNot (mTru (mCallF 1 m_has_double_form (aCons (xVar 0) aNil)))) (xRaise "InvalidSum" (xVar 0)) xNil)
noncomputable def m_check_double_term : MFX := fnX 1 b_check_double_term
def b_is_there : MS :=
  (sRet (mCall dAll (aCons (xComp (iSeq (mCallF 2 m_whole_lines (aCons (xVar 0) (aCons (xC (.int 1)) aNil)))) (gNm 3) mYes (mB dGe (mCallF 3 m_line_worth (aCons (xVar 3) (aCons (xVar 1) (aCons (xVar 2) aNil)))) (xC (.int 0))) [3]) aNil)))
def m_is_there : MF := fnM 4 b_is_there
noncomputable def b_double_value_in : MS :=
  (sSeq (sIf (mTOr (mTB (mB dEq (mB dIx (xVar 0) (xC (.int 1))) (xLst aNil))) (mTru (mCallF 3 m_is_cut (aCons (mB dIx (xVar 0) (xC (.int 4))) (aCons (xVar 1) (aCons (xVar 2) aNil)))))) (sRet (xTup (aCons (xC (.int 0)) (aCons (xC (.int 1)) aNil)))) sNil)
  (sSeq (sAsg (mCallF 3 m_factors_worth (aCons (mB dIx (xVar 0) (xC (.int 4))) (aCons (xVar 1) (aCons (xVar 2) aNil)))) (gTp 2 (gsCons (gNm 3) (gsCons (gNm 4) gsNil))))
  (sSeq (sAsg (mCallF 2 m_power_parts (aCons (mB dIx (xVar 0) (xC (.int 2))) (aCons (xVar 1) aNil))) (gTp 2 (gsCons (gNm 5) (gsCons (gNm 6) gsNil))))
  (sSeq (sAsg (mCallF 2 m_power_parts (aCons (mB dIx (xVar 0) (xC (.int 3))) (aCons (xVar 2) aNil))) (gTp 2 (gsCons (gNm 7) (gsCons (gNm 8) gsNil))))
  (sRet (mCallF 2 m_lowest_of (aCons (mB dMul (mB dMul (mB dMul (mCallF 2 m_worth_in (aCons (mCallF 2 m_worths_of_parts (aCons (mB dIx (xVar 0) (xC (.int 1))) (aCons (xVar 1) aNil))) (aCons (xVar 2) aNil))) (xVar 3)) (xVar 5)) (xVar 7)) (aCons (mB dMul (mB dMul (xVar 4) (xVar 6)) (xVar 8)) aNil))))))))
noncomputable def m_double_value_in : MF := fnM 9 b_double_value_in
def b__law_power : MS :=
  (sSeq (sAsg (mIf (mTB (mB dGe (xVar 1) (xC (.int 0)))) (xVar 0) (xTup (aCons (mB dIx (xVar 0) (xC (.int 1))) (aCons (mB dIx (xVar 0) (xC (.int 0))) aNil)))) (gTp 2 (gsCons (gNm 3) (gsCons (gNm 4) gsNil))))
  (sSeq (sAsg (xTup (aCons (xC (.int 1)) (aCons (xC (.int 1)) aNil))) (gTp 2 (gsCons (gNm 5) (gsCons (gNm 6) gsNil))))
  (sSeq (sFor (iRg1 (aCons (mCall dAbs (aCons (xVar 1) aNil)) aNil)) (gNm 2) (sParO 5 6 (aDat (mB dMul (xVar 5) (xVar 3)) (aDat (mB dMul (xVar 6) (xVar 4)) aNil))))
  (sRet (mCallF 2 m__law_low (aCons (xVar 5) (aCons (xVar 6) aNil)))))))
def m__law_power : MF := fnM 7 b__law_power
def b__law_is_poly : MS :=
  (sSeq (sIf (mTOr (mTNot (mTru (mU (dIsi "list") (xVar 0)))) (mTB (mB dNe (xComp (iSeq (xVar 0)) (gNm 1) (mTNot (mTru (mCallF 1 m__law_is_whole (aCons (xVar 1) aNil)))) (xVar 1) [1]) (xLst aNil)))) (sRet (xC (.bool false))) sNil)
  (sRet (mOr (mB dEq (xVar 0) (xLst aNil)) (mB dNe (mB dIx (xVar 0) (mU dNeg (xC (.int 1)))) (xC (.int 0))))))
def m__law_is_poly : MF := fnM 2 b__law_is_poly
def b__law_cut : MS :=
  (sSeq (sSet 1 (mCall dList (aCons (xVar 0) aNil)))
  (sSeq (sFor (iRg1 (aCons (mCall dLen (aCons (xVar 0) aNil)) aNil)) (gNm 2) (sSet 1 (mIf (mTAnd (mTB (mB dNe (xVar 1) (xLst aNil))) (mTB (mB dEq (mB dIx (xVar 1) (mU dNeg (xC (.int 1)))) (xC (.int 0))))) (mSl (xVar 1) oNone (oSome (mU dNeg (xC (.int 1))))) (xVar 1))))
  (sRet (xVar 1))))
def m__law_cut : MF := fnM 3 b__law_cut
def b__law_worth : MS :=
  (sSeq (sSet 2 (xC (.int 0)))
  (sSeq (sFor (iSeq (mU dRev (xVar 0))) (gNm 3) (sSet 2 (mB dAdd (mB dMul (xVar 2) (xVar 1)) (xVar 3))))
  (sRet (xVar 2))))
def m__law_worth : MF := fnM 4 b__law_worth
def b__law_line : MS :=
  (sRet (mB dAdd (mB dAdd (mB dMul (mB dIx (xVar 0) (xC (.int 0))) (xVar 1)) (mB dMul (mB dIx (xVar 0) (xC (.int 1))) (xVar 2))) (mB dIx (xVar 0) (xC (.int 2)))))
def m__law_line : MF := fnM 3 b__law_line
def b__law_are_factors : MS :=
  (sSeq (sIf (mTOr (mTNot (mTru (mU (dIsi "list") (xVar 0)))) (mTB (mB dNe (xComp (iSeq (xVar 0)) (gNm 1) (mTNot (mTru (mCallF 1 m__law_is_factor (aCons (xVar 1) aNil)))) (xVar 1) [1]) (xLst aNil)))) (sRet (xC (.bool false))) sNil)
  (sRet (mB dEq (xVar 0) (mCall dSorted (aCons (xVar 0) aNil)))))
def m__law_are_factors : MF := fnM 2 b__law_are_factors
def b__law_lines : MS :=
  (sRet (xComp (iSeq (xVar 0)) (gTp 3 (gsCons (gNm 2) (gsCons (gNm 3) (gsCons (gNm 4) gsNil)))) (mTAnd (mTB (mB dEq (xVar 2) (xTup (aCons (xC (.int 1)) (aCons (xC (.int 1)) aNil))))) (mTB (mB dEq (xVar 4) (xVar 1)))) (xVar 3) [2, 3, 4]))
def m__law_lines : MF := fnM 5 b__law_lines
def b__law_factors_worth : MS :=
  (sSeq (sIf (mTB (mB dNe (xComp (iSeq (mCallF 2 m__law_lines (aCons (xVar 0) (aCons (mB dSub (xC (.int 0)) (xC (.int 1))) aNil)))) (gNm 5) (mTB (mB dLt (mCallF 3 m__law_line (aCons (xVar 5) (aCons (xVar 1) (aCons (xVar 2) aNil)))) (xC (.int 0)))) (xVar 5) [5]) (xLst aNil))) (sRet (xTup (aCons (xC (.int 0)) (aCons (xC (.int 1)) aNil)))) sNil)
  (sSeq (sSet 3 (xTup (aCons (xC (.int 1)) (aCons (xC (.int 1)) aNil))))
  (sSeq (sFor (iSeq (xVar 0)) (gTp 3 (gsCons (gNm 4) (gsCons (gNm 5) (gsCons (gNm 6) gsNil)))) (sSeq (sSet 7 (mCallF 2 m__law_rising (aCons (xVar 4) (aCons (mCallF 3 m__law_line (aCons (xVar 5) (aCons (xVar 1) (aCons (xVar 2) aNil)))) aNil))))
  (sSeq (sIf (mTB (mB (dIs id) (xVar 7) (xC .none))) (sRet (xC .none)) sNil)
  (sSet 3 (mCallF 2 m__law_times (aCons (xVar 3) (aCons (mIf (mTB (mB dEq (xVar 6) (xC (.int 1)))) (xVar 7) (mCallF 2 m__law_low (aCons (mB dIx (xVar 7) (xC (.int 1))) (aCons (mB dIx (xVar 7) (xC (.int 0))) aNil)))) aNil)))))))
  (sRet (xVar 3)))))
def m__law_factors_worth : MF := fnM 8 b__law_factors_worth
def b__law_base : MS :=
  (sRet (mCallF 2 m__law_pick (aCons (xVar 0) (aCons (xLst (aCons (xTup (aCons (xC (.int 1)) (aCons (xC (.int 1)) aNil))) (aCons (xTup (aCons (xC (.int 1)) (aCons (xC (.int 1)) aNil))) (aCons (xTup (aCons (xC (.int 2)) (aCons (xC (.int 1)) aNil))) (aCons (xTup (aCons (mB dSub (xC (.int 0)) (xC (.int 1))) (aCons (xC (.int 1)) aNil))) (aCons (xTup (aCons (xC (.int 1)) (aCons (xC (.int 2)) aNil))) (aCons (xTup (aCons (mB dSub (xC (.int 0)) (xC (.int 3))) (aCons (xC (.int 2)) aNil))) aNil))))))) aNil))))
def m__law_base : MF := fnM 1 b__law_base
def b__law_poly : MS :=
  (sRet (mCallF 1 m__law_cut (aCons (xComp (iRg1 (aCons (mCallF 2 m__law_random (aCons (xVar 0) (aCons (mB dAdd (xVar 1) (xC (.int 2))) aNil))) aNil)) (gNm 2) mYes (mB dSub (mCallF 2 m__law_random (aCons (xVar 0) (aCons (xC (.int 7)) aNil))) (xC (.int 3))) [2]) aNil)))
def m__law_poly : MF := fnM 3 b__law_poly
def b__law_double_poly : MS :=
  (sSeq (sSet 1 (xComp (iRg1 (aCons (mB dAdd (xC (.int 1)) (mCallF 2 m__law_random (aCons (xVar 0) (aCons (xC (.int 2)) aNil)))) aNil)) (gNm 2) mYes (mCallF 2 m__law_poly (aCons (xVar 0) (aCons (xC (.int 1)) aNil))) [2]))
  (sSeq (sFor (iRg1 (aCons (mCall dLen (aCons (xVar 1) aNil)) aNil)) (gNm 2) (sSet 1 (mIf (mTAnd (mTB (mB dNe (xVar 1) (xLst aNil))) (mTB (mB dEq (mB dIx (xVar 1) (mU dNeg (xC (.int 1)))) (xLst aNil)))) (mSl (xVar 1) oNone (oSome (mU dNeg (xC (.int 1))))) (xVar 1))))
  (sRet (xVar 1))))
def m__law_double_poly : MF := fnM 3 b__law_double_poly
def b__law_rims : MS :=
  (sSeq (sSet 1 (xLst (aCons (xTup (aCons (xTup (aCons (xC (.int 1)) (aCons (xC (.int 1)) aNil))) (aCons (xTup (aCons (xC (.int 0)) (aCons (xC (.int 1)) (aCons (xC (.int 0)) aNil)))) (aCons (mB dSub (xC (.int 0)) (xC (.int 1))) aNil)))) (aCons (xTup (aCons (xTup (aCons (xC (.int 1)) (aCons (xC (.int 1)) aNil))) (aCons (xTup (aCons (xC (.int 1)) (aCons (mB dSub (xC (.int 0)) (xC (.int 1))) (aCons (xC (.int 0)) aNil)))) (aCons (mB dSub (xC (.int 0)) (xC (.int 1))) aNil)))) aNil))))
  (sSeq (sSet 2 (xLst (aCons (xTup (aCons (xTup (aCons (xC (.int 1)) (aCons (xC (.int 1)) aNil))) (aCons (xTup (aCons (xC (.int 0)) (aCons (xC (.int 1)) (aCons (mB dSub (mCallF 2 m__law_random (aCons (xVar 0) (aCons (xC (.int 3)) aNil))) (xC (.int 1))) aNil)))) (aCons (mB dSub (xC (.int 0)) (xC (.int 1))) aNil)))) (aCons (xTup (aCons (xTup (aCons (xC (.int 1)) (aCons (xC (.int 1)) aNil))) (aCons (xTup (aCons (xC (.int 1)) (aCons (mB dSub (xC (.int 0)) (xC (.int 2))) (aCons (mCallF 2 m__law_random (aCons (xVar 0) (aCons (xC (.int 3)) aNil))) aNil)))) (aCons (mB dSub (xC (.int 0)) (xC (.int 1))) aNil)))) aNil))))
  (sRet (mCallF 2 m__law_pick (aCons (xVar 0) (aCons (xLst (aCons (xVar 1) (aCons (xVar 1) (aCons (xVar 2) (aCons (mB dAdd (xVar 1) (xLst (aCons (xTup (aCons (xTup (aCons (xC (.int 1)) (aCons (xC (.int 1)) aNil))) (aCons (xTup (aCons (xC (.int 1)) (aCons (xC (.int 0)) (aCons (xC (.int 0)) aNil)))) (aCons (xC (.int 1)) aNil)))) aNil))) (aCons (mB dAdd (mB dAdd (xVar 1) (xVar 1)) (mB dMul (xLst (aCons (xTup (aCons (xTup (aCons (xC (.int 1)) (aCons (xC (.int 1)) aNil))) (aCons (xTup (aCons (xC (.int 1)) (aCons (xC (.int 0)) (aCons (xC (.int 0)) aNil)))) (aCons (xC (.int 1)) aNil)))) aNil)) (xC (.int 2)))) (aCons (xLst aNil) (aCons (mSl (xVar 2) oNone (oSome (xC (.int 1)))) aNil)))))))) aNil))))))
def m__law_rims : MF := fnM 3 b__law_rims
def b__law_raw_double : MS :=
  (sSeq (sSet 1 (mB dAdd (mCallF 1 m__law_rims (aCons (xVar 0) aNil)) (xComp (iRg1 (aCons (mCallF 2 m__law_random (aCons (xVar 0) (aCons (xC (.int 3)) aNil))) aNil)) (gNm 2) mYes (mCallF 2 m__law_raw_factor (aCons (xVar 0) (aCons (xC (.int 1)) aNil))) [2])))
  (sRet (xTup (aCons (xC (.str "double")) (aCons (mCallF 1 m__law_double_poly (aCons (xVar 0) aNil)) (aCons (mCallF 1 m__law_base (aCons (xVar 0) aNil)) (aCons (mCallF 1 m__law_base (aCons (xVar 0) aNil)) (aCons (mCall dSorted (aCons (xVar 1) aNil)) aNil))))))))
def m__law_raw_double : MF := fnM 3 b__law_raw_double
def b_span_where : MS :=
  (sSeq (sAsg (xTup (aCons (xC (.int 0)) (aCons (xC .none) aNil))) (gTp 2 (gsCons (gNm 1) (gsCons (gNm 2) gsNil))))
  (sSeq (sFor (iSeq (xVar 0)) (gTp 2 (gsCons (gNm 3) (gsCons (gNm 4) gsNil))) (sSeq (sIf (mTAnd (mTB (mB dEq (xVar 3) (xC (.int 0)))) (mTB (mB dLt (xVar 4) (xC (.int 0))))) (sRet (xC .none)) sNil)
  (sSeq (sIf (mTB (mB dGt (xVar 3) (xC (.int 0)))) (sSet 1 (mCall dMax2 (aCons (xVar 1) (aCons (mB dSub (xC (.int 0)) (mB dDiv (xVar 4) (xVar 3))) aNil)))) sNil)
  (sIf (mTB (mB dLt (xVar 3) (xC (.int 0)))) (sSeq (sSet 5 (mB dDiv (xVar 4) (mB dSub (xC (.int 0)) (xVar 3))))
  (sSet 2 (mIf (mTB (mB (dIs id) (xVar 2) (xC .none))) (xVar 5) (mCall dMin2 (aCons (xVar 2) (aCons (xVar 5) aNil)))))) sNil))))
  (sRet (mIf (mTOr (mTB (mB (dIs id) (xVar 2) (xC .none))) (mTB (mB dLe (xVar 1) (xVar 2)))) (xTup (aCons (xVar 1) (aCons (xVar 2) aNil))) (xC .none)))))
def m_span_where : MF := fnM 6 b_span_where
end My
namespace My
open PySem PySem.Spec PyProof.Rows L2 DL
/-! Euclid by the bits of both -/
theorem fib_two : ∀ d, 2 ^ d ≤ fib (2 * d + 1)
  | 0 => Nat.le_refl 1
  | d + 1 => by
    have ih := fib_two d
    have m : fib (2 * d + 1) ≤ fib (2 * d + 2) := fib_mono _
    rw [show 2 * (d + 1) + 1 = 2 * d + 3 by omega, Nat.pow_succ]
    have e3 : fib (2 * d + 3) = fib (2 * d + 1) + fib (2 * d + 2) := rfl
    omega
theorem fib_le {n m : Nat} (h : n ≤ m) : fib n ≤ fib m := by
  induction m with
  | zero =>
    have : n = 0 := by omega
    subst this
    exact Nat.le_refl _
  | succ m ih =>
    rcases Nat.lt_or_ge n (m + 1) with h1 | h1
    · exact Nat.le_trans (ih (by omega)) (fib_mono m)
    · have : n = m + 1 := by omega
      subst this
      exact Nat.le_refl _
theorem eu_bits {a b k n : Nat} (h : b < 2 ^ k) (hn : 2 * k ≤ n) : eu n (a, b) = (Nat.gcd a b, 0) := by
  have h1 : (eu n (a, b)).2 = 0 := by
    rcases Nat.eq_zero_or_pos (eu n (a, b)).2 with h0 | h0
    · exact h0
    · have h1 : fib (n + 1) ≤ b := (lame _ a b h0).1
      have h2 := fib_two k
      have h3 : fib (2 * k + 1) ≤ fib (n + 1) := fib_le (by omega)
      omega
  have h2 := eu_gcd n (a, b)
  rw [h1, Nat.gcd_zero_right] at h2
  exact Prod.ext h2 h1
theorem bits_lt {x : Nat} : x < 2 ^ Builtin.Int.intBits (x : Int) := by
  unfold Builtin.Int.intBits
  simp only [Int.natAbs_natCast]
  split
  · rename_i h
    have : x = 0 := by simpa using h
    subst this
    decide
  · exact Nat.lt_log2_self
theorem bits_le {x n : Nat} (h : x < 2 ^ n) : Builtin.Int.intBits (x : Int) ≤ n + 1 := by
  unfold Builtin.Int.intBits
  simp only [Int.natAbs_natCast]
  split
  · omega
  · have := log2_le h
    omega
theorem lcommon_eq {a b : Int} {cs : Cs} (ha : a.natAbs < 2 ^ 8000) (hb : b.natAbs < 2 ^ 8000) : m__law_common [.dat (.int a), .dat (.int b)] cs = some (di (Int.gcd a b), cs) := by
  refine em_eq ?_
  unfold m__law_common
  rw [em_fnM]
  unfold b__law_common
  have es : (a.natAbs : Int) + (b.natAbs : Int) = ((a.natAbs + b.natAbs : Nat) : Int) := by omega
  have hs : a.natAbs + b.natAbs < 2 ^ 8001 := by
    rw [Nat.pow_succ]
    omega
  have hb1 : b.natAbs < 2 ^ Builtin.Int.intBits (((a.natAbs + b.natAbs : Nat)) : Int) := Nat.lt_of_le_of_lt (Nat.le_add_left _ _) bits_lt
  have hk := bits_le hs
  generalize hq : Builtin.Int.intBits (((a.natAbs + b.natAbs : Nat)) : Int) = k at hb1 hk
  have cm : CMl (4 : Int) (k : Int) := cml 3 13 (by decide) (by rw [Int.natAbs_natCast]; exact Nat.lt_of_le_of_lt hk (by decide))
  have bt : dBits (.int ((a.natAbs : Int) + (b.natAbs : Int))) = some (di (k : Int)) := by
    rw [es]
    show some (di ((Builtin.Int.intBits (((a.natAbs + b.natAbs : Nat)) : Int) : Nat) : Int)) = _
    rw [hq]
  clear ha hb hs es hq
  simp [dAbs_int, dAdd_int, bt, dMul_int cm]
  refine ⟨by constructor <;> omega, ?_⟩
  have en : (4 + 4 * (k : Int)).toNat = 4 + 4 * k := by omega
  rw [en]
  refine el_inv (k := 0) (fun i ρ cs' => cs' = cs ∧ ∃ x2, ρ = [some (di (eu i (a.natAbs, b.natAbs)).1), some (di (eu i (a.natAbs, b.natAbs)).2), x2]) ⟨rfl, none, rfl⟩ ?_ ?_
  · rintro i x ρ cs' hi ⟨rfl, x2, rfl⟩
    rw [Nat.zero_add, eu_succ]
    generalize eu i (a.natAbs, b.natAbs) = p
    obtain ⟨u, v⟩ := p
    by_cases hv : 0 < v
    · have hv' : (v : Int) ≠ 0 := by omega
      have e : (u : Int).fmod v = ((u % v : Nat) : Int) := by rw [Int.fmod_eq_emod_of_nonneg _ (by omega)]; rfl
      simp [dGt_int, hv, dMod_int hv', e, eu1, dInt]
    · have : v = 0 := by omega
      subst this
      simp [dGt_int, eu1]
  · rintro ρ cs' ⟨rfl, x2, rfl⟩
    rw [rng_len, Nat.zero_add, eu_bits hb1 (by omega)]
    simp
    rfl
theorem llow_eq {a b : Int} {cs : Cs} (hb : b ≠ 0) (ha : a.natAbs < 2 ^ 8000) (hz : b.natAbs < 2 ^ 8000) : m__law_low [.dat (.int a), .dat (.int b)] cs = some (.dat (.tuple [.int (nfA a b), .int (nfB a b)]), cs) := by
  have g0 := gcd_pos (a := a) hb
  have g1 : Int.gcd a b < 2 ^ 8000 := Nat.lt_of_le_of_lt (gcd_le hb) hz
  have two : 2 ≤ sizeLine := by rw [sizeLine_eq]; decide
  have dv : ∀ x : Int, CDv x (Int.gcd a b : Int) := fun x => ⟨by omega, by
    have := log2_le g1
    show (Int.gcd a b : Int).natAbs.log2 < 9000
    rw [Int.natAbs_natCast]
    omega⟩
  have dvn : ∀ x : Int, CDv x (-(Int.gcd a b : Int)) := fun x => ⟨by omega, by
    have := log2_le g1
    show (-(Int.gcd a b : Int)).natAbs.log2 < 9000
    rw [Int.natAbs_neg, Int.natAbs_natCast]
    omega⟩
  have gi : (0 : Int) < (Int.gcd a b : Int) := by omega
  refine em_eq ?_
  unfold m__law_low
  rw [em_fnM]
  unfold b__law_low
  simp
  refine em_of (lcommon_eq ha hz) ?_
  by_cases hn : 0 < b
  · have s : b.sign = 1 := Int.sign_eq_one_of_pos (by omega)
    have e1 : a.fdiv (Int.gcd a b : Int) = nfA a b := by
      rw [fdiv_pos gi]
      unfold nfA
      rw [s, Int.one_mul]
    have e2 : b.fdiv (Int.gcd a b : Int) = nfB a b := by
      rw [fdiv_pos gi]
      unfold nfB
      rw [show (b.natAbs : Int) = b by omega]
    simp [dGt_int, hn, dDiv_int (dv _), e1, e2, two]
  · have s : b.sign = -1 := Int.sign_eq_neg_one_of_neg (by omega)
    have e1 : a.fdiv (-(Int.gcd a b : Int)) = nfA a b := by
      rw [fdiv_neg' gi (Int.gcd_dvd_left ..)]
      unfold nfA
      rw [s, Int.neg_one_mul]
    have e2 : b.fdiv (-(Int.gcd a b : Int)) = nfB a b := by
      rw [fdiv_neg' gi (Int.gcd_dvd_right ..)]
      unfold nfB
      rw [show (b.natAbs : Int) = -b by omega]
    simp [dGt_int, hn, dSub_int, dDiv_int (dvn _), e1, e2, two]
theorem ltimes_eq {p1 q1 p2 q2 : Int} {n : Nat} {cs : Cs} (h1 : p1.natAbs < 2 ^ n) (h2 : q1.natAbs < 2 ^ n) (h3 : p2.natAbs < 2 ^ n) (h4 : q2.natAbs < 2 ^ n) (hq1 : q1 ≠ 0) (hq2 : q2 ≠ 0) (hn : n ≤ 4000) :
    m__law_times [.dat (.tuple [.int p1, .int q1]), .dat (.tuple [.int p2, .int q2])] cs = some (.dat (.tuple [.int (nfA (p1 * p2) (q1 * q2)), .int (nfB (p1 * p2) (q1 * q2))]), cs) := by
  refine em_eq ?_
  unfold m__law_times
  rw [em_fnM]
  unfold b__law_times
  simp [dIx_t0, dIx_t1, dMul_int (cml n n h1 h3 (by omega)), dMul_int (cml n n h2 h4 (by omega))]
  refine em_of (llow_eq (Int.mul_ne_zero hq1 hq2) (pow_le (lg_mul h1 h3) (by omega)) (pow_le (lg_mul h2 h4) (by omega))) ?_
  simp
/-! nf of products -/
theorem nf_mul' {a b k : Int} (hk : k ≠ 0) (hb : b ≠ 0) : nfA (a * k) (b * k) = nfA a b ∧ nfB (a * k) (b * k) = nfB a b := by
  rcases Int.lt_trichotomy k 0 with h | h | h
  · have e := nf_mul (a := a) (b := b) (k := -k) (by omega) hb
    rw [Int.mul_neg, Int.mul_neg, nf_neg.1, nf_neg.2] at e
    exact e
  · exact absurd h hk
  · exact nf_mul h hb
theorem nf_split {a b : Int} (hb : b ≠ 0) : ∃ g : Int, g ≠ 0 ∧ a = nfA a b * g ∧ b = nfB a b * g := by
  have g0 := gcd_pos (a := a) hb
  have gi : (Int.gcd a b : Int) ∣ a := Int.gcd_dvd_left ..
  have gj : (Int.gcd a b : Int) ∣ b := Int.gcd_dvd_right ..
  rcases Int.lt_trichotomy b 0 with h | h | h
  · refine ⟨-(Int.gcd a b : Int), by omega, ?_, ?_⟩
    · unfold nfA
      rw [Int.sign_eq_neg_one_of_neg h, Int.neg_one_mul, Int.mul_neg, Int.ediv_mul_cancel (Int.dvd_neg.mpr gi), Int.neg_neg]
    · unfold nfB
      rw [Int.mul_neg, Int.ediv_mul_cancel (Int.dvd_natAbs.mpr gj)]
      omega
  · exact absurd h hb
  · refine ⟨(Int.gcd a b : Int), by omega, ?_, ?_⟩
    · unfold nfA
      rw [Int.sign_eq_one_of_pos h, Int.one_mul, Int.ediv_mul_cancel gi]
    · unfold nfB
      rw [Int.ediv_mul_cancel (Int.dvd_natAbs.mpr gj)]
      omega
theorem nf_step {a b s t : Int} (hb : b ≠ 0) (ht : t ≠ 0) : nfA (nfA a b * s) (nfB a b * t) = nfA (a * s) (b * t) ∧ nfB (nfA a b * s) (nfB a b * t) = nfB (a * s) (b * t) := by
  obtain ⟨g, hg, e1, e2⟩ := nf_split (a := a) hb
  have hB := nfB_pos (a := a) hb
  have e := nf_mul' (a := nfA a b * s) (b := nfB a b * t) (k := g) hg (Int.mul_ne_zero (by omega) ht)
  rw [Int.mul_right_comm, Int.mul_right_comm (nfB a b), ← e1, ← e2] at e
  exact ⟨e.1.symm, e.2.symm⟩
theorem nf_two {a b s t : Int} (hb : b ≠ 0) (ht : t ≠ 0) : nfA (nfA a b * nfA s t) (nfB a b * nfB s t) = nfA (a * s) (b * t) ∧ nfB (nfA a b * nfA s t) (nfB a b * nfB s t) = nfB (a * s) (b * t) := by
  have hB := nfB_pos (a := s) ht
  have e := nf_step (s := nfA s t) (t := nfB s t) (a := a) hb (by omega)
  have e' := nf_step (a := s) (b := t) (s := a) (t := b) ht hb
  rw [Int.mul_comm _ a, Int.mul_comm _ b, Int.mul_comm s a, Int.mul_comm t b] at e'
  exact ⟨e.1.trans e'.1, e.2.trans e'.2⟩
end My
namespace My
open PySem PySem.Spec PyProof.Rows L2 DL
theorem int_or (d : D) : (∃ p, d = .int p) ∨ wholeB d = false := by cases d <;> first | exact .inl ⟨_, rfl⟩ | exact .inr rfl
def rsB (d : D) : Bool := fracB d && match d with
  | .tuple [.int p, .int q] => decide (0 < p) && decide (p ≤ q)
  | _ => false
theorem frac_form {d : D} (h : fracB d = true) : ∃ p q : Int, d = .tuple [.int p, .int q] ∧ 1 ≤ q ∧ Int.gcd p q = 1 := by
  unfold fracB at h
  split at h
  · rename_i p q
    simp at h
    exact ⟨p, q, rfl, h.1, by omega⟩
  · cases h
theorem rs_eq {d : D} {cs : Cs} : m_is_rising_start [.dat d] cs = some (db (rsB d), cs) := by
  refine em_eq ?_
  unfold m_is_rising_start
  rw [em_fnM]
  unfold b_is_rising_start
  simp
  refine em_of is_fraction_eq ?_
  cases hf : fracB d with
  | false => simp [rsB, hf]
  | true =>
    obtain ⟨p, q, rfl, _, _⟩ := frac_form hf
    by_cases h0 : 0 < p
    · simp [rsB, hf, dIx_t0, dIx_t1, h0]
    · simp [rsB, hf, dIx_t0, dIx_t1, h0]
def lineB (d : D) : Bool := match d with
  | .tuple [a, b, c] => wholeB a && wholeB b && wholeB c
  | _ => false
theorem len3 {ds : List D} (h : ds.length = 3) : ∃ a b c, ds = [a, b, c] := by
  match ds, h with
  | [a, b, c], _ => exact ⟨a, b, c, rfl⟩
theorem tup3 (ds : List D) : (∃ a b c, ds = [a, b, c]) ∨ ((((ds.length : Nat) : Int) == 3) = false ∧ lineB (.tuple ds) = false) := by
  by_cases h : ds.length = 3
  · exact .inl (len3 h)
  · refine .inr ⟨by rw [beq_eq_false_iff_ne]; omega, ?_⟩
    match ds, h with
    | [], _ => rfl
    | [_], _ => rfl
    | [_, _], _ => rfl
    | _ :: _ :: _ :: _ :: _, _ => rfl
    | [_, _, _], h => exact absurd rfl h
theorem allok_b {l : List Bool} : allOk (l.map PyData.bool) = true := by
  unfold allOk
  rw [Bool.and_eq_true]
  refine ⟨plain_all.mpr fun d hd => ?_, List.all_eq_true.mpr fun d hd => ?_⟩
  · obtain ⟨b, _, rfl⟩ := List.mem_map.mp hd
    rfl
  · obtain ⟨b, _, rfl⟩ := List.mem_map.mp hd
    rfl
theorem line_eq {d : D} {cs : Cs} : m_is_line_told [.dat d] cs = some (db (lineB d), cs) := by
  refine em_eq ?_
  unfold m_is_line_told
  rw [em_fnM]
  unfold b_is_line_told
  cases d with
  | tuple ds =>
    rcases tup3 ds with ⟨a, b, c, rfl⟩ | ⟨h1, h2⟩
    · simp [isi_tuple, dLen, dEq_int]
      refine ec_pure (fun _ => true) (fun x => .bool (wholeB x)) (fun x hx cs' => ?_) (le_size (by show 0 + 3 ≤ 16777216; decide)) ?_
      · simp [wipeR]
        refine em_of is_whole_eq ?_
        simp
      · have ok : allOk [.bool (wholeB a), .bool (wholeB b), .bool (wholeB c)] = true := allok_b (l := [wholeB a, wholeB b, wholeB c])
        simp [dAll, ok, lineB, PyData.truthy, Bool.and_assoc]
    · simp [isi_tuple, dLen, dEq_int, h1, h2]
  | _ => simp [isi_tuple, lineB]
theorem lwhole_eq {d : D} {cs : Cs} : m__law_is_whole [.dat d] cs = some (db (wholeB d), cs) := by
  refine em_eq ?_
  unfold m__law_is_whole
  rw [em_fnM]
  unfold b__law_is_whole
  cases d <;> simp [isi_int, isi_bool, dNot, wholeB]
theorem lline_eq {d : D} {cs : Cs} (hp : ∀ ds, d = .tuple ds → PyData.plainAll ds = true) : m__law_is_line [.dat d] cs = some (db (lineB d), cs) := by
  refine em_eq ?_
  unfold m__law_is_line
  rw [em_fnM]
  unfold b__law_is_line
  cases d with
  | tuple ds =>
    rcases tup3 ds with ⟨a, b, c, rfl⟩ | ⟨h1, h2⟩
    · simp [isi_tuple, dLen, dEq_int]
      refine ec_pure (fun x => !wholeB x) id (fun x hx cs' => ?_) (le_size (by show 0 + 3 ≤ 16777216; decide)) ?_
      · simp [wipeR]
        refine em_of lwhole_eq ?_
        simp
      · have pl := plain_filter (P := fun x => !wholeB x) (hp _ rfl)
        rw [List.nil_append, List.map_id]
        simp [dEq_nil pl]
        cases ha : wholeB a <;> cases hb : wholeB b <;> cases hc : wholeB c <;> simp [lineB, ha, hb, hc]
    · simp [isi_tuple, dLen, dEq_int, h1, h2]
  | _ => simp [isi_tuple, lineB]
def smF (d : D) : Prop := ∀ p q, d = .tuple [.int p, .int q] → p.natAbs < 2 ^ 8000 ∧ q.natAbs < 2 ^ 8000
theorem lfraction_eq {d : D} {cs : Cs} (hs : smF d) : m__law_is_fraction [.dat d] cs = some (db (fracB d), cs) := by
  refine em_eq ?_
  unfold m__law_is_fraction
  rw [em_fnM]
  unfold b__law_is_fraction
  cases d with
  | tuple ds =>
    match ds with
    | [] => simp [isi_tuple, dLen, fdNe_int, fracB]
    | [_] => simp [isi_tuple, dLen, fdNe_int, fracB]
    | x :: y :: z :: r =>
      simp [isi_tuple, dLen, fdNe_int, fracB]
      intro h
      exfalso
      have := Int.natCast_nonneg r.length
      omega
    | [x, y] =>
      simp [isi_tuple, dLen, fdNe_int, dIx_t0, dIx_t1]
      refine em_of lwhole_eq ?_
      simp
      rcases int_or x with ⟨p, rfl⟩ | hx
      · rw [show wholeB (.int p) = true from rfl, if_pos rfl]
        refine em_of lwhole_eq ?_
        rcases int_or y with ⟨q, rfl⟩ | hy
        · obtain ⟨s1, s2⟩ := hs p q rfl
          clear hs
          simp [wholeB, dGt_int]
          by_cases h1 : 0 < q
          · simp [h1]
            refine em_of (lcommon_eq s1 s2) ?_
            have : decide (1 ≤ q) = true := decide_eq_true (by omega)
            simp [fdEq_int, fracB, this]
          · have : decide (1 ≤ q) = false := decide_eq_false (by omega)
            simp [h1, fracB, this]
        · simp [hy]
          cases y with
          | int q => cases hy
          | _ => rfl
      · rw [hx, if_neg (by decide)]
        cases x with
        | int q => cases hx
        | _ => rfl
  | _ => simp [isi_tuple, fracB]
def eB (d : D) : Bool := match d with
  | .int i => i == 1 || i == -1
  | _ => false
def facB (d : D) : Bool := match d with
  | .tuple [x, l, e] => rsB x && lineB l && eB e
  | _ => false
theorem dIx3_0 {a b c : D} : dIx (.tuple [a, b, c]) (.int 0) = some (.dat a) := rfl
theorem dIx3_1 {a b c : D} : dIx (.tuple [a, b, c]) (.int 1) = some (.dat b) := rfl
theorem dIx3_2 {a b c : D} : dIx (.tuple [a, b, c]) (.int 2) = some (.dat c) := rfl
theorem dIn_pm {i : Int} : dIn (.int i) (.tuple [.int 1, .int (-1)]) = some (db (i == 1 || i == -1)) := by
  unfold dIn
  rw [if_pos (c := CIn (.int i) (.tuple [.int 1, .int (-1)])) ⟨rfl, rfl, by show min _ 0 ≤ 100; omega⟩]
  have e : inD (.int i) (.tuple [.int 1, .int (-1)]) = (i == 1 || i == -1) := by
    show ([PyData.int 1, .int (-1)].any fun y => PyData.eqv y (.int i)) = _
    simp [PyData.eqv]
    rw [Bool.beq_comm (a := (1 : Int)), Bool.beq_comm (a := (-1 : Int))]
  rw [e]
theorem dIn_pmL {i : Int} : dIn (.int i) (.list [.int 1, .int (-1)]) = some (db (i == 1 || i == -1)) := by
  unfold dIn
  rw [if_pos (c := CIn (.int i) (.list [.int 1, .int (-1)])) ⟨rfl, rfl, by show min _ 0 ≤ 100; omega⟩]
  have e : inD (.int i) (.list [.int 1, .int (-1)]) = (i == 1 || i == -1) := by
    show ([PyData.int 1, .int (-1)].any fun y => PyData.eqv y (.int i)) = _
    simp [PyData.eqv]
    rw [Bool.beq_comm (a := (1 : Int)), Bool.beq_comm (a := (-1 : Int))]
  rw [e]
theorem fac3 (ds : List D) : (∃ a b c, ds = [a, b, c]) ∨ ((((ds.length : Nat) : Int) == 3) = false ∧ facB (.tuple ds) = false) := by
  by_cases h : ds.length = 3
  · exact .inl (len3 h)
  · refine .inr ⟨by rw [beq_eq_false_iff_ne]; omega, ?_⟩
    match ds, h with
    | [], _ => rfl
    | [_], _ => rfl
    | [_, _], _ => rfl
    | _ :: _ :: _ :: _ :: _, _ => rfl
    | [_, _, _], h => exact absurd rfl h
theorem factor_eq {d : D} {cs : Cs} : m_is_factor [.dat d] cs = some (db (facB d), cs) := by
  refine em_eq ?_
  unfold m_is_factor
  rw [em_fnM]
  unfold b_is_factor
  cases d with
  | tuple ds =>
    rcases fac3 ds with ⟨a, b, c, rfl⟩ | ⟨h1, h2⟩
    · simp [isi_tuple, dLen, fdNe_int, dIx3_0, dIx3_1, dIx3_2]
      refine em_of rs_eq ?_
      simp
      cases hr : rsB a with
      | false => simp [facB, hr]
      | true =>
        simp
        refine em_of line_eq ?_
        cases hl : lineB b with
        | false => simp [facB, hr, hl]
        | true =>
          simp
          refine em_of is_whole_eq ?_
          rcases int_or c with ⟨i, rfl⟩ | hc
          · have two : 2 ≤ sizeLine := two_fit
            simp [wholeB, facB, hr, hl, dNeg_int, dIn_pm, eB, two]
          · have : eB c = false := by cases c <;> first | rfl | cases hc
            simp [hc, facB, hr, hl, this]
    · simp [isi_tuple, dLen, fdNe_int, h1, h2]
  | _ => simp [isi_tuple, facB]
structure FOk (d : D) : Prop where
  sm : ∀ a b c, d = .tuple [a, b, c] → smF a
  pl : ∀ a b c, d = .tuple [a, b, c] → b.plain = true
theorem lfactor_eq {d : D} {cs : Cs} (ok : FOk d) : m__law_is_factor [.dat d] cs = some (db (facB d), cs) := by
  refine em_eq ?_
  unfold m__law_is_factor
  rw [em_fnM]
  unfold b__law_is_factor
  cases d with
  | tuple ds =>
    rcases fac3 ds with ⟨a, b, c, rfl⟩ | ⟨h1, h2⟩
    · simp [isi_tuple, dLen, fdNe_int, dIx3_0, dIx3_1, dIx3_2]
      refine em_of (lfraction_eq (ok.sm a b c rfl)) ?_
      simp
      cases hr : fracB a with
      | false => simp [facB, rsB, hr]
      | true =>
        simp
        refine em_of (lline_eq (fun ds e => by
          have := ok.pl a b c rfl
          rw [e] at this
          exact this)) ?_
        obtain ⟨p, q, rfl, _, _⟩ := frac_form hr
        cases hl : lineB b with
        | false => simp [facB, hl]
        | true =>
          simp [dIx_t0, dIx_t1]
          have two : 2 ≤ sizeLine := two_fit
          by_cases h0 : 0 < p
          · by_cases h1 : p ≤ q
            · simp [h0, h1]
              refine em_of lwhole_eq ?_
              rcases int_or c with ⟨i, rfl⟩ | hc
              · simp [wholeB, facB, rsB, hr, hl, dSub_int, dIn_pmL, eB, two, h0, h1]
              · have : eB c = false := by cases c <;> first | rfl | cases hc
                simp [hc, facB, rsB, hr, hl, this]
            · simp [h0, h1, facB, rsB, hr]
          · simp [h0, facB, rsB, hr]
    · simp [isi_tuple, dLen, fdNe_int, h1, h2]
  | _ => simp [isi_tuple, facB]
end My
namespace My
open PySem PySem.Spec PyProof.Rows L2 DL
/-- the parts of a rising product -/
def rp (p q m : Int) : Nat → Int × Int
  | 0 => (1, 1)
  | n + 1 => if 0 ≤ m then ((rp p q m n).1 * (p + n * q), (rp p q m n).2 * q) else ((rp p q m n).1 * q, (rp p q m n).2 * (p - (n + 1) * q))
structure RS (p q : Int) : Prop where
  p0 : 0 < p
  le : p ≤ q
  sm : q ≤ 20
  g : Int.gcd p q = 1
theorem RS.rs {p q : Int} (h : RS p q) : rsB (.tuple [.int p, .int q]) = true := by
  have := h.p0
  have := h.le
  have g := h.g
  unfold rsB fracB
  simp [g]
  omega
def isOne (p q : Int) : Bool := p == 1 && q == 1
theorem RS.one {p q : Int} (h : RS p q) (e : p = q) : isOne p q = true := by
  subst e
  have g := h.g
  rw [Int.gcd_self] at g
  have := h.p0
  have : p = 1 := by omega
  subst this
  rfl
theorem small_mul {a b : Int} {n : Nat} (h1 : a.natAbs < 2 ^ n) (h2 : b.natAbs < 2 ^ 11) : (a * b).natAbs < 2 ^ (n + 11) := lg_mul h1 h2
theorem RS.b1 {p q : Int} (h : RS p q) {n : Nat} (hn : n ≤ 60) : (p + n * q).natAbs < 2 ^ 11 := by
  have h1 := h.p0
  have h2 := h.le
  have h3 := h.sm
  have q0 : 0 ≤ q := by omega
  have e1 : (n : Int) * q ≤ 60 * 20 := Int.mul_le_mul (by omega) h3 q0 (by decide)
  have e2 : 0 ≤ (n : Int) * q := Int.mul_nonneg (by omega) q0
  generalize (n : Int) * q = z at e1 e2
  omega
theorem RS.b2 {p q : Int} (h : RS p q) {n : Nat} (hn : n ≤ 60) : (p - (n + 1) * q).natAbs < 2 ^ 11 := by
  have h1 := h.p0
  have h2 := h.le
  have h3 := h.sm
  have q0 : 0 ≤ q := by omega
  have e1 : ((n : Int) + 1) * q ≤ 61 * 20 := Int.mul_le_mul (by omega) h3 q0 (by decide)
  have e2 : 0 ≤ ((n : Int) + 1) * q := Int.mul_nonneg (by omega) q0
  generalize ((n : Int) + 1) * q = z at e1 e2
  omega
theorem RS.bq {p q : Int} (h : RS p q) : q.natAbs < 2 ^ 11 := by
  have h1 := h.p0
  have h2 := h.le
  have h3 := h.sm
  omega
theorem RS.qn {p q : Int} (h : RS p q) : q ≠ 0 := by
  have h1 := h.p0
  have h2 := h.le
  omega
theorem RS.nz {p q : Int} (h : RS p q) (ho : isOne p q = false) (n : Nat) : p - (n + 1) * q ≠ 0 := by
  intro e
  have h1 := h.p0
  have h2 := h.le
  rcases Nat.eq_zero_or_pos n with h0 | h0
  · subst h0
    have := h.one (by
      rw [show (((0 : Nat) : Int) + 1) * q = q by omega] at e
      omega)
    rw [ho] at this
    cases this
  · have e1 : 2 * q ≤ ((n : Int) + 1) * q := Int.mul_le_mul_of_nonneg_right (by omega) (by omega)
    generalize ((n : Int) + 1) * q = z at e e1
    omega
theorem rp_b {p q m : Int} (h : RS p q) : ∀ {n : Nat}, n ≤ 60 → (rp p q m n).1.natAbs < 2 ^ (11 * n + 1) ∧ (rp p q m n).2.natAbs < 2 ^ (11 * n + 1)
  | 0, _ => ⟨by show (1 : Int).natAbs < _; decide, by show (1 : Int).natAbs < _; decide⟩
  | n + 1, hn => by
    obtain ⟨i1, i2⟩ := rp_b (m := m) h (n := n) (by omega)
    unfold rp
    rw [show 11 * (n + 1) + 1 = 11 * n + 1 + 11 by omega]
    split
    · exact ⟨small_mul i1 (h.b1 (by omega)), small_mul i2 h.bq⟩
    · exact ⟨small_mul i1 h.bq, small_mul i2 (h.b2 (by omega))⟩
theorem rp_nz {p q m : Int} (h : RS p q) (ho : m < 0 → isOne p q = false) : ∀ {n : Nat}, (rp p q m n).2 ≠ 0
  | 0 => by show (1 : Int) ≠ 0; decide
  | n + 1 => by
    have ih := rp_nz h ho (n := n)
    unfold rp
    split
    · exact Int.mul_ne_zero ih h.qn
    · exact Int.mul_ne_zero ih (h.nz (ho (by omega)) n)
theorem sm_of {n : Nat} (h : n ≤ 1000) : sm62 (n : Int) := by constructor <;> omega
theorem two62 : ∀ {i : Int}, i = 0 ∨ i = 1 → i.natAbs < 2 ^ 1 := by omega
theorem parts_eq {p q m : Int} {cs : Cs} (h : RS p q) (hm : m.natAbs ≤ 60) : m_rising_parts [.dat (.tuple [.int p, .int q]), .dat (.int m)] cs = some (.dat (.tuple [.int (rp p q m m.natAbs).1, .int (rp p q m m.natAbs).2]), cs) := by
  refine em_eq ?_
  unfold m_rising_parts
  rw [em_fnM]
  unfold b_rising_parts
  have two : 2 ≤ sizeLine := two_fit
  simp [two, dAbs_int]
  refine ⟨sm_of (by omega), ?_⟩
  refine el_inv (k := 0) (fun i ρ cs' => i ≤ m.natAbs ∧ cs' = cs ∧ ∃ x2, ρ = [some (.dat (.tuple [.int p, .int q])), some (.dat (.int m)), x2, some (di (rp p q m i).1), some (di (rp p q m i).2)]) ⟨by omega, rfl, none, rfl⟩ ?_ ?_
  · rintro i d ρ cs' hd ⟨hi', rfl, x2, rfl⟩
    rw [Nat.zero_add] at *
    have hi : i < m.natAbs := by
      have := (List.getElem?_eq_some_iff.mp hd).1
      rw [rng_len] at this
      exact this
    have ed : d = .int (i : Int) := by
      unfold rngD at hd
      rw [List.getElem?_map, List.getElem?_range hi] at hd
      simpa using hd.symm
    subst ed
    obtain ⟨b1, b2⟩ := rp_b (m := m) h (n := i) (by omega)
    have q1 := h.bq
    have c1 : CMl (i : Int) q := cml 6 11 (by omega) q1
    have c1' : CMl ((i : Int) + 1) q := cml 6 11 (by omega) q1
    have c2 : CMl (rp p q m i).1 (p + i * q) := cml (11 * i + 1) 11 b1 (h.b1 (by omega)) (by omega)
    have c3 : CMl (rp p q m i).2 q := cml (11 * i + 1) 11 b2 q1 (by omega)
    have c4 : CMl (rp p q m i).1 q := cml (11 * i + 1) 11 b1 q1 (by omega)
    have c5 : CMl (rp p q m i).2 (p - (i + 1) * q) := cml (11 * i + 1) 11 b2 (h.b2 (by omega)) (by omega)
    simp only [rp]
    by_cases h0 : 0 ≤ m
    · simp [dGe_int, h0, dIx_t0, dIx_t1, dMul_int c1, dMul_int c2, dMul_int c3, dAdd_int]
      omega
    · simp [dGe_int, h0, dIx_t0, dIx_t1, dMul_int c1', dMul_int c4, dMul_int c5, dAdd_int, dSub_int]
      omega
  · rintro ρ cs' ⟨_, rfl, x2, rfl⟩
    rw [rng_len, Nat.zero_add]
    simp [two]
/-- the rising product -/
def rpV (p q m : Int) : D := if (isOne p q && decide (m < 0)) = true then .none else .tuple [.int (nfA (rp p q m m.natAbs).1 (rp p q m m.natAbs).2), .int (nfB (rp p q m m.natAbs).1 (rp p q m m.natAbs).2)]
theorem dEq_one {p q : Int} : dEq (.tuple [.int p, .int q]) (.tuple [.int 1, .int 1]) = some (db (isOne p q)) := by
  unfold dEq
  rw [if_pos ⟨rfl, rfl, by show min 1 1 ≤ 100; decide⟩]
  simp [PyData.eqv, PyData.eqvAll, isOne]
theorem rp_z {p q m : Int} (h : RS p q) (hm : m.natAbs ≤ 60) : (rp p q m m.natAbs).1.natAbs < 2 ^ 8000 ∧ (rp p q m m.natAbs).2.natAbs < 2 ^ 8000 := by
  obtain ⟨b1, b2⟩ := rp_b (m := m) h hm
  exact ⟨pow_le b1 (by omega), pow_le b2 (by omega)⟩
theorem lrising_eq {p q m : Int} {cs : Cs} (h : RS p q) (hm : m.natAbs ≤ 60) : m__law_rising [.dat (.tuple [.int p, .int q]), .dat (.int m)] cs = some (.dat (rpV p q m), cs) := by
  refine em_eq ?_
  unfold m__law_rising
  rw [em_fnM]
  unfold b__law_rising
  have two : 2 ≤ sizeLine := two_fit
  simp [two, dEq_one, dLt_int, dAbs_int]
  have main : ∀ (Q : Out → Prop), (m < 0 → isOne p q = false) → Q (.rt (.dat (.tuple [.int (nfA (rp p q m m.natAbs).1 (rp p q m m.natAbs).2), .int (nfB (rp p q m m.natAbs).1 (rp p q m m.natAbs).2)])) cs) →
      El (gNm 3) (sSeq (sSet 4 (mIf (mTB (mB dGe (xVar 1) (xC (.int 0)))) (xTup (aCons (mB dAdd (mB dIx (xVar 0) (xC (.int 0))) (mB dMul (xVar 3) (mB dIx (xVar 0) (xC (.int 1))))) (aCons (mB dIx (xVar 0) (xC (.int 1))) aNil))) (xTup (aCons (mB dIx (xVar 0) (xC (.int 1))) (aCons (mB dSub (mB dIx (xVar 0) (xC (.int 0))) (mB dMul (mB dAdd (xVar 3) (xC (.int 1))) (mB dIx (xVar 0) (xC (.int 1))))) aNil)))))
        (sSet 2 (mCallF 2 m__law_low (aCons (mB dMul (mB dIx (xVar 2) (xC (.int 0))) (mB dIx (xVar 4) (xC (.int 0)))) (aCons (mB dMul (mB dIx (xVar 2) (xC (.int 1))) (mB dIx (xVar 4) (xC (.int 1)))) aNil)))))
        cs.length (rngD 0 m.natAbs) [some (.dat (.tuple [.int p, .int q])), some (.dat (.int m)), some (.dat (.tuple [.int 1, .int 1])), none, none] cs (Nx cs.length (sRet (xVar 2)) Q) := by
    intro Q ho hQ
    refine el_inv (k := 0) (fun i ρ cs' => i ≤ m.natAbs ∧ cs' = cs ∧ ∃ x3 x4, ρ = [some (.dat (.tuple [.int p, .int q])), some (.dat (.int m)), some (.dat (.tuple [.int (nfA (rp p q m i).1 (rp p q m i).2), .int (nfB (rp p q m i).1 (rp p q m i).2)])), x3, x4]) ⟨by omega, rfl, none, none, by
      have z := nf_of (p := 1) (q := 1) (by decide) (by decide)
      show _ = [_, _, some (Rv.dat (.tuple [.int (nfA 1 1), .int (nfB 1 1)])), _, _]
      rw [z.1, z.2]⟩ ?_ ?_
    · rintro i d ρ cs' hd ⟨hi', rfl, x3, x4, rfl⟩
      rw [Nat.zero_add] at *
      have hi : i < m.natAbs := by
        have := (List.getElem?_eq_some_iff.mp hd).1
        rw [rng_len] at this
        exact this
      have ed : d = .int (i : Int) := by
        unfold rngD at hd
        rw [List.getElem?_map, List.getElem?_range hi] at hd
        simpa using hd.symm
      subst ed
      obtain ⟨b1, b2⟩ := rp_b (m := m) h (n := i) (by omega)
      have n2 := rp_nz h ho (n := i)
      have a1 := Nat.lt_of_le_of_lt (nfA_le (a := (rp p q m i).1) (b := (rp p q m i).2)) b1
      have a2 := Nat.lt_of_le_of_lt (nfB_le (a := (rp p q m i).1) n2) b2
      have pB := nfB_pos (a := (rp p q m i).1) n2
      have st := fun s t (ht : t ≠ 0) => nf_step (a := (rp p q m i).1) (b := (rp p q m i).2) (s := s) (t := t) n2 ht
      have q1 := h.qn
      have q2 := h.bq
      have r1 := h.b1 (n := i) (by omega)
      have r2 := h.b2 (n := i) (by omega)
      have c1 : CMl (i : Int) q := cml 6 11 (by omega) q2
      have c1' : CMl ((i : Int) + 1) q := cml 6 11 (by omega) q2
      simp only [rp]
      generalize nfA (rp p q m i).1 (rp p q m i).2 = A at *
      generalize nfB (rp p q m i).1 (rp p q m i).2 = B at *
      by_cases h0 : 0 ≤ m
      · have c2 : CMl A (p + i * q) := cml (11 * i + 1) 11 a1 r1 (by omega)
        have c3 : CMl B q := cml (11 * i + 1) 11 a2 q2 (by omega)
        simp [dGe_int, h0, dIx_t0, dIx_t1, dMul_int c1, dAdd_int, two, dMul_int c2, dMul_int c3]
        refine em_of (llow_eq (Int.mul_ne_zero (by omega) q1) (pow_le (small_mul a1 r1) (by omega)) (pow_le (small_mul a2 q2) (by omega))) ?_
        rw [(st _ _ q1).1, (st _ _ q1).2]
        simp
        omega
      · have t1 := h.nz (ho (by omega)) i
        have c4 : CMl A q := cml (11 * i + 1) 11 a1 q2 (by omega)
        have c5 : CMl B (p - (i + 1) * q) := cml (11 * i + 1) 11 a2 r2 (by omega)
        simp [dGe_int, h0, dIx_t0, dIx_t1, dMul_int c1', dAdd_int, dSub_int, two, dMul_int c4, dMul_int c5]
        refine em_of (llow_eq (Int.mul_ne_zero (by omega) t1) (pow_le (small_mul a1 q2) (by omega)) (pow_le (small_mul a2 r2) (by omega))) ?_
        rw [(st _ _ t1).1, (st _ _ t1).2]
        simp
        omega
    · rintro ρ cs' ⟨_, rfl, x3, x4, rfl⟩
      rw [rng_len, Nat.zero_add]
      simp
      exact hQ
  cases ho : isOne p q with
  | true =>
    by_cases hn : m < 0
    · simp [hn, rpV, ho]
    · simp [hn]
      refine ⟨sm_of (by omega), ?_⟩
      refine main _ (fun z => absurd z hn) ?_
      simp [rpV, hn]
  | false =>
    simp
    refine ⟨sm_of (by omega), ?_⟩
    refine main _ (fun _ => ho) ?_
    simp [rpV, ho]
end My
namespace My
open PySem PySem.Spec PyProof.Rows L2 DL
/-! factors, their lists in order -/
def toF (p q a b c e : Int) : D := .tuple [.tuple [.int p, .int q], .tuple [.int a, .int b, .int c], .int e]
theorem fac_form {d : D} (h : facB d = true) : ∃ p q a b c e : Int, d = toF p q a b c e ∧ 0 < p ∧ p ≤ q ∧ Int.gcd p q = 1 ∧ (e = 1 ∨ e = -1) := by
  unfold facB at h
  split at h
  · rename_i x l e
    simp only [Bool.and_eq_true] at h
    obtain ⟨⟨h1, h2⟩, h3⟩ := h
    unfold rsB at h1
    simp only [Bool.and_eq_true] at h1
    obtain ⟨p, q, rfl, g1, g2⟩ := frac_form h1.1
    have h1' := h1.2
    simp at h1'
    unfold lineB at h2
    split at h2
    · rename_i a b c
      simp only [Bool.and_eq_true] at h2
      obtain ⟨⟨w1, w2⟩, w3⟩ := h2
      rcases int_or a with ⟨a, rfl⟩ | z
      · rcases int_or b with ⟨b, rfl⟩ | z
        · rcases int_or c with ⟨c, rfl⟩ | z
          · rcases int_or e with ⟨e, rfl⟩ | z
            · unfold eB at h3
              simp at h3
              exact ⟨p, q, a, b, c, e, rfl, h1'.1, h1'.2, g2, h3⟩
            · exfalso
              unfold eB at h3
              cases e <;> first | (cases h3; done) | (cases z; done)
          · rw [z] at w3; cases w3
        · rw [z] at w2; cases w2
      · rw [z] at w1; cases w1
    · cases h2
  · cases h
theorem toF_alike {p q a b c e p' q' a' b' c' e' : Int} : PySem.W.alike (toF p q a b c e) (toF p' q' a' b' c' e') = true := by
  simp [toF, PySem.W.alike, PySem.W.alikeAll]
theorem fac_alike {d e : D} (h1 : facB d = true) (h2 : facB e = true) : PySem.W.alike d e = true := by
  obtain ⟨p, q, a, b, c, e, rfl, _⟩ := fac_form h1
  obtain ⟨p', q', a', b', c', e', rfl, _⟩ := fac_form h2
  exact toF_alike
theorem fac_depth {d : D} (h1 : facB d = true) : d.depth = 2 := by
  obtain ⟨p, q, a, b, c, e, rfl, _⟩ := fac_form h1
  rfl
theorem fac_plain {d : D} (h1 : facB d = true) : d.plain = true := by
  obtain ⟨p, q, a, b, c, e, rfl, _⟩ := fac_form h1
  rfl
def leD (d e : D) : Bool := !PySem.W.dataLt e d
theorem leD_eq : leD = PySem.W.dataLe false id := rfl
theorem leD_total : PySem.W.TotalLe leD := by
  rw [leD_eq]
  unfold PySem.W.dataLe
  exact PySem.W.sortLe_total _ _ _
theorem fac_le {d e : D} (h1 : facB d = true) (h2 : facB e = true) : dLe d e = some (db (leD d e)) := by
  have ha := fac_alike h1 h2
  have hp := noF_plain (fac_plain h1)
  have hq := noF_plain (fac_plain h2)
  have hd := fac_depth h1
  obtain ⟨p, q, a, b, c, x, rfl, _⟩ := fac_form h1
  show (if CLt (toF p q a b c x) e then some (db (leD (toF p q a b c x) e)) else none) = _
  rw [if_pos ⟨ha, nofun, by omega, hp, hq⟩]
/-- each is at most the next -/
def chn : List D → Bool
  | x :: y :: r => leD x y && chn (y :: r)
  | _ => true
theorem chn_pair : ∀ {ds : List D}, chn ds = true → ds.Pairwise (fun a b => leD a b = true)
  | [], _ => .nil
  | [x], _ => by simp
  | x :: y :: r, h => by
    obtain ⟨h1, h2⟩ := Bool.and_eq_true_iff.mp (show (leD x y && chn (y :: r)) = true from h)
    have ih := chn_pair h2
    refine List.pairwise_cons.mpr ⟨fun z hz => ?_, ih⟩
    rcases List.mem_cons.mp hz with rfl | hz
    · exact h1
    · exact leD_total.trans _ _ _ h1 (List.rel_of_pairwise_cons ih hz)
theorem pair_chn : ∀ {ds : List D}, ds.Pairwise (fun a b => leD a b = true) → chn ds = true
  | [], _ => rfl
  | [x], _ => rfl
  | x :: y :: r, h => by
    show (leD x y && chn (y :: r)) = true
    rw [List.rel_of_pairwise_cons h (List.mem_cons_self ..), pair_chn (List.Pairwise.of_cons h)]
    rfl
def lePair (t : D) : Bool := match t with
  | .tuple [x, y] => leD x y
  | _ => true
theorem chn_zip : ∀ (ds : List D), (zipD ds ds.tail).all lePair = chn ds
  | [] => rfl
  | [x] => rfl
  | x :: y :: r => by
    have ih := chn_zip (y :: r)
    show (leD x y && (zipD (y :: r) r).all _) = (leD x y && chn (y :: r))
    rw [← ih]
    rfl
theorem srt_of_chn {ds : List D} (h : chn ds = true) : srt ds = ds := by
  unfold srt
  rw [← leD_eq]
  exact List.mergeSort_of_pairwise (chn_pair h)
theorem srt_pair (ds : List D) : (srt ds).Pairwise (fun a b => leD a b = true) := by
  unfold srt
  rw [← leD_eq]
  exact List.pairwise_mergeSort (fun a b c => leD_total.trans a b c) (fun a b => by
    rcases leD_total.total a b with h | h <;> simp [h]) ds
theorem fac_eqv {d e : D} (h1 : facB d = true) (h2 : facB e = true) (h : PyData.eqv d e = true) : d = e := by
  obtain ⟨p, q, a, b, c, x, rfl, _⟩ := fac_form h1
  obtain ⟨p', q', a', b', c', x', rfl, _⟩ := fac_form h2
  simp [toF, PyData.eqv, PyData.eqvAll] at h
  obtain ⟨⟨rfl, rfl⟩, ⟨rfl, rfl, rfl⟩, rfl⟩ := h
  rfl
theorem facs_eqv : ∀ {ds es : List D}, (∀ d ∈ ds, facB d = true) → (∀ d ∈ es, facB d = true) → PyData.eqvAll ds es = true → ds = es
  | [], [], _, _, _ => rfl
  | [], _ :: _, _, _, h => by cases h
  | _ :: _, [], _, _, h => by cases h
  | d :: ds, e :: es, h1, h2, h => by
    obtain ⟨q1, q2⟩ := Bool.and_eq_true_iff.mp (show (PyData.eqv d e && PyData.eqvAll ds es) = true from h)
    rw [fac_eqv (h1 d (List.mem_cons_self ..)) (h2 e (List.mem_cons_self ..)) q1, facs_eqv (fun x hx => h1 x (List.mem_cons_of_mem _ hx)) (fun x hx => h2 x (List.mem_cons_of_mem _ hx)) q2]
theorem facs_plain {ds : List D} (h : ∀ d ∈ ds, facB d = true) : PyData.plainAll ds = true := plain_all.mpr fun d hd => fac_plain (h d hd)
theorem facs_depth : ∀ {ds : List D}, (∀ d ∈ ds, facB d = true) → PyData.depthAll ds ≤ 2
  | [], _ => Nat.zero_le _
  | d :: ds, h => by
    show Nat.max d.depth (PyData.depthAll ds) ≤ 2
    exact Nat.max_le.mpr ⟨by rw [fac_depth (h d (List.mem_cons_self ..))]; exact Nat.le_refl _, facs_depth fun x hx => h x (List.mem_cons_of_mem _ hx)⟩
theorem eqv_srt {ds : List D} (h : ∀ d ∈ ds, facB d = true) : PyData.eqv (.list ds) (.list (srt ds)) = chn ds := by
  have hs : ∀ d ∈ srt ds, facB d = true := fun d hd => h d (srt_mem.mp hd)
  cases hc : chn ds with
  | true =>
    rw [srt_of_chn hc]
    exact SeqAt.eqv_refl_plain _ (facs_plain h)
  | false =>
    rw [Bool.eq_false_iff]
    intro e
    have e1 : ds = srt ds := facs_eqv h hs e
    have := pair_chn (srt_pair ds)
    rw [← e1, hc] at this
    cases this
theorem facs_sok {ds : List D} (h : ∀ d ∈ ds, facB d = true) : sOk ds = true := by
  unfold sOk
  rw [Bool.and_eq_true, Bool.and_eq_true, Bool.or_eq_true]
  refine ⟨⟨List.all_eq_true.mpr fun d hd => List.all_eq_true.mpr fun e he => fac_alike (h d hd) (h e he), .inl (List.all_eq_true.mpr fun d hd => ?_)⟩, List.all_eq_true.mpr fun d hd => ?_⟩
  · obtain ⟨p, q, a, b, c, x, rfl, _⟩ := fac_form (h d hd)
    rfl
  · rw [fac_depth (h d hd)]
    rfl
theorem dSorted_facs {ds : List D} (h : ∀ d ∈ ds, facB d = true) : dSorted [.list ds] = some (.fr (srt ds)) := if_pos (facs_sok h)
/-- a list of factors in order -/
def facsB (d : D) : Bool := match d with
  | .list ds => ds.all facB && chn ds
  | _ => false
theorem cutD_1 {ds : List D} : DL.cutD ds (some 1) none = ds.tail := by
  unfold DL.cutD
  have e1 : HT.sIx ds.length 0 (some 1) = min 1 ds.length := by
    unfold HT.sIx
    simp
  have e2 : HT.sIx ds.length ds.length none = ds.length := rfl
  rw [e1, e2]
  cases ds with
  | nil => rfl
  | cons x r =>
    rw [show min 1 (x :: r).length = 1 by rw [List.length_cons]; omega]
    exact List.take_of_length_le (by simp)
theorem dSl_drop1 {ds : List D} : dSl (.list ds) (some 1) none = some (.fr ds.tail) := by
  show some (Rv.fr (DL.cutD ds (some 1) none)) = _
  rw [cutD_1]
theorem allB {l : List D} {P : D → Bool} (hl : l.length ≤ sizeLine) : dAll [.list (l.map fun d => .bool (P d))] = some (db (l.all P)) := by
  have ok : allOk (l.map fun d => PyData.bool (P d)) = true := by
    have := allok_b (l := l.map P)
    rwa [List.map_map] at this
  show (if allOk (l.map fun d => PyData.bool (P d)) = true then some (db ((l.map fun d => PyData.bool (P d)).all PyData.truthy)) else none) = _
  rw [if_pos ok, List.all_map]
  rfl
theorem zip_pairs : ∀ {xs ys : List D} {t : D}, t ∈ zipD xs ys → ∃ x y, t = .tuple [x, y] ∧ x ∈ xs ∧ y ∈ ys
  | x :: xs, y :: ys, t, h => by
    rcases List.mem_cons.mp (show t ∈ .tuple [x, y] :: zipD xs ys from h) with rfl | h
    · exact ⟨x, y, rfl, List.mem_cons_self .., List.mem_cons_self ..⟩
    · obtain ⟨a, b, e, h1, h2⟩ := zip_pairs h
      exact ⟨a, b, e, List.mem_cons_of_mem _ h1, List.mem_cons_of_mem _ h2⟩
  | [], _, _, h => by cases h
  | _ :: _, [], _, h => by cases h
theorem are_eq {d : D} {cs : Cs} (hz : ∀ ds, d = .list ds → ds.length ≤ sizeLine) : m_are_factors [.dat d] cs = some (db (facsB d), cs) := by
  refine em_eq ?_
  unfold m_are_factors
  rw [em_fnM]
  unfold b_are_factors
  cases d with
  | list ds =>
    have hz := hz ds rfl
    simp [isi_list]
    refine ec_pure (fun _ => true) (fun x => .bool (facB x)) (fun x hx cs' => ?_) (by simpa using hz) ?_
    · simp [wipeR]
      refine em_of factor_eq ?_
      simp
    · rw [List.nil_append, List.filter_eq_self.mpr (fun _ _ => rfl), allB hz]
      cases hf : ds.all facB with
      | false => simp [facsB, hf]
      | true =>
        have hf' : ∀ d ∈ ds, facB d = true := fun d hd => List.all_eq_true.mp hf d hd
        simp [dSl_drop1]
        refine ec_pure (fun _ => true) (fun t => .bool (lePair t)) (fun t ht cs' => ?_) (by simp [zipD_len]; omega) ?_
        · obtain ⟨x, y, rfl, hx, hy⟩ := zip_pairs ht
          have hle := fac_le (hf' x hx) (hf' y (List.mem_of_mem_tail hy))
          simp [wipeR, hle, lePair]
        · rw [List.nil_append, List.filter_eq_self.mpr (fun _ _ => rfl), allB (by simp [zipD_len]; omega)]
          have e := chn_zip ds
          simp [facsB, hf]
          exact e
  | dict kvs =>
    rw [show facsB (.dict kvs) = false from rfl]
    simp [isi_list]
  | _ => simp [isi_list, facsB]
theorem lare_eq {d : D} {cs : Cs} (hz : ∀ ds, d = .list ds → ds.length ≤ sizeLine ∧ PyData.plainAll ds = true ∧ ∀ x ∈ ds, FOk x) : m__law_are_factors [.dat d] cs = some (db (facsB d), cs) := by
  refine em_eq ?_
  unfold m__law_are_factors
  rw [em_fnM]
  unfold b__law_are_factors
  cases d with
  | list ds =>
    obtain ⟨hz, hp, hk⟩ := hz ds rfl
    simp [isi_list]
    refine ec_pure (fun x => !facB x) id (fun x hx cs' => ?_) (by simpa using hz) ?_
    · simp [wipeR]
      refine em_of (lfactor_eq (hk x hx)) ?_
      simp
    · rw [List.nil_append, List.map_id, dNe_nil (plain_filter hp)]
      cases hf : ds.all facB with
      | false =>
        have : (ds.filter fun x => !facB x) ≠ [] := fun e => by
          have z : ds.all facB = true := List.all_eq_true.mpr fun d hd => by
            cases q : facB d with
            | true => rfl
            | false =>
              have : d ∈ ds.filter fun x => !facB x := List.mem_filter.mpr ⟨hd, by rw [q]; rfl⟩
              rw [e] at this
              cases this
          rw [hf] at z
          cases z
        have : (ds.filter fun x => !facB x).isEmpty = false := by simpa using this
        simp [this, facsB, hf]
      | true =>
        have hf' : ∀ d ∈ ds, facB d = true := fun d hd => List.all_eq_true.mp hf d hd
        have : (ds.filter fun x => !facB x) = [] := List.filter_eq_nil_iff.mpr fun d hd => by rw [hf' d hd]; decide
        rw [this]
        have hs : ∀ d ∈ srt ds, facB d = true := fun d hd => hf' d (srt_mem.mp hd)
        have e : dEq (.list ds) (.list (srt ds)) = some (db (chn ds)) := by
          unfold dEq
          rw [if_pos ⟨facs_plain hf', facs_plain hs, Nat.le_trans (Nat.min_le_left _ _) (by show PyData.depthAll ds + 1 ≤ 100; have := facs_depth hf'; omega)⟩, eqv_srt hf']
        simp [dSorted_facs hf', e, facsB, hf]
  | dict kvs =>
    rw [show facsB (.dict kvs) = false from rfl]
    simp [isi_list]
  | _ => simp [isi_list, facsB]
end My
namespace My
open PySem PySem.Spec PyProof.Rows L2 DL
noncomputable def b_steps_of : MS :=
  (sSeq (sSet 1 (xC (.int 1)))
  (sSeq (sFor (iSeq (xVar 0)) (gTp 3 (gsCons (gNm 2) (gsCons (gNm 3) (gsCons (gNm 4) gsNil)))) (sIf (mTB (mB dNe (xVar 3) (xC (.int 0)))) (sSet 1 (mB dMul (mB dDiv (xVar 1) (mCallF 2 m_common_of (aCons (xVar 1) (aCons (xVar 3) aNil)))) (mCall dAbs (aCons (xVar 3) aNil)))) sNil))
  (sRet (xVar 1))))
noncomputable def m_steps_of : MF := fnM 5 b_steps_of
def b_by_steps : MS :=
  (sSeq (sPar3 3 4 5 (aOwn (xLst aNil) (aOwn (xLst aNil) (aOwn (xLst aNil) aNil))))
  (sSeq (sFor (iSeq (xVar 0)) (gTp 3 (gsCons (gNm 6) (gsCons (gNm 7) (gsCons (gNm 8) gsNil)))) (sSeq (sSet 9 (mB dAdd (mB dMul (xVar 6) (xVar 2)) (xVar 8)))
  (sIf (mTB (mB dEq (xVar 7) (xC (.int 0)))) (sApp 3 (xTup (aCons (mB dMul (xVar 6) (xVar 1)) (aCons (xVar 9) aNil)))) (sIf (mTB (mB dGt (xVar 7) (xC (.int 0)))) (sApp 4 (xTup (aCons (mB dSub (xC (.int 0)) (mB dMul (xVar 6) (mB dDiv (xVar 1) (xVar 7)))) (aCons (mB dSub (xC (.int 0)) (mB dDiv (xVar 9) (xVar 7))) aNil)))) (sApp 5 (xTup (aCons (mB dMul (xVar 6) (mB dDiv (xVar 1) (mB dSub (xC (.int 0)) (xVar 7)))) (aCons (mB dDiv (xVar 9) (mB dSub (xC (.int 0)) (xVar 7))) aNil))))))))
  (sSeq (sFrz 5 (sFrz 4 (sFor (iSeq (xVar 5)) (gTp 2 (gsCons (gNm 10) (gsCons (gNm 9) gsNil))) (sOwn 3 (mB dAdd (xVar 3) (xComp (iSeq (xVar 4)) (gTp 2 (gsCons (gNm 11) (gsCons (gNm 12) gsNil))) mYes (xTup (aCons (mB dSub (xVar 10) (xVar 11)) (aCons (mB dSub (xVar 9) (xVar 12)) aNil))) [11, 12]))))))
  (sRet (xVar 3)))))
def m_by_steps : MF := fnM 13 b_by_steps
noncomputable def b_last_without : MS :=
  (sSeq (sParO 2 3 (aDat (mCallF 1 m_steps_of (aCons (xVar 0) aNil)) (aDat (mU dNeg (xC (.int 1))) aNil)))
  (sSeq (sFor (iRg1 (aCons (xVar 2) aNil)) (gNm 1) (sSeq (sSet 4 (mCallF 1 m_span_where (aCons (mCallF 3 m_by_steps (aCons (xVar 0) (aCons (xVar 2) (aCons (xVar 1) aNil)))) aNil)))
  (sSeq (sIf (mTAnd (mTB (mB (dIs not) (xVar 4) (xC .none))) (mTB (mB (dIs id) (mB dIx (xVar 4) (xC (.int 1))) (xC .none)))) (sRet (xC .none)) sNil)
  (sIf (mTB (mB (dIs not) (xVar 4) (xC .none))) (sSet 3 (mCall dMax2 (aCons (xVar 3) (aCons (mB dAdd (mB dMul (mB dIx (xVar 4) (xC (.int 1))) (xVar 2)) (xVar 1)) aNil)))) sNil))))
  (sRet (xVar 3))))
noncomputable def m_last_without : MF := fnM 5 b_last_without
noncomputable def b_last_missing : MS :=
  (sSeq (sSet 2 (mU dNeg (xC (.int 1))))
  (sSeq (sFor (iSeq (xVar 0)) (gTp 3 (gsCons (gNm 3) (gsCons (gNm 4) (gsCons (gNm 5) gsNil)))) (sSeq (sSet 6 (mCallF 1 m_last_without (aCons (mB dAdd (xVar 1) (xLst (aCons (xTup (aCons (mB dSub (xC (.int 0)) (xVar 3)) (aCons (mB dSub (xC (.int 0)) (xVar 4)) (aCons (mB dSub (mB dSub (xC (.int 0)) (xVar 5)) (xC (.int 1))) aNil)))) aNil))) aNil)))
  (sSeq (sIf (mTB (mB (dIs id) (xVar 6) (xC .none))) (sRet (xC .none)) sNil)
  (sSet 2 (mCall dMax2 (aCons (xVar 2) (aCons (xVar 6) aNil)))))))
  (sRet (xVar 2))))
noncomputable def m_last_missing : MF := fnM 7 b_last_missing
noncomputable def b_is_sound_everywhere : MS :=
  (sRet (mB dEq (mCallF 2 m_last_missing (aCons (mCallF 2 m_whole_lines (aCons (xVar 0) (aCons (xC (.int 1)) aNil))) (aCons (mCallF 2 m_whole_lines (aCons (xVar 0) (aCons (mU dNeg (xC (.int 1))) aNil))) aNil))) (mU dNeg (xC (.int 1)))))
noncomputable def m_is_sound_everywhere : MF := fnM 1 b_is_sound_everywhere
noncomputable def b_double_value : MS :=
  (sSeq (sExpr (mCallF 1 (okM m_check_double_term) (aCons (xVar 0) aNil)))
  (sSeq (sExpr (mCallF 1 (okM m_check_number) (aCons (xVar 1) aNil)))
  (sSeq (sIf (mTNot (mTru (mCallF 1 m_is_whole (aCons (xVar 2) aNil)))) sNev sNil)
  (sSeq (sIf (mTAnd (mTNot (mTru (mCallF 3 m_is_cut (aCons (mB dIx (xVar 0) (xC (.int 4))) (aCons (xVar 1) (aCons (xVar 2) aNil)))))) (mTNot (mTru (mCallF 3 m_is_there (aCons (mB dIx (xVar 0) (xC (.int 4))) (aCons (xVar 1) (aCons (xVar 2) aNil))))))) (sRet (xC .none)) sNil)
  (sRet (mCallF 3 m_double_value_in (aCons (xVar 0) (aCons (xVar 1) (aCons (xVar 2) aNil)))))))))
noncomputable def m_double_value : MF := fnM 3 b_double_value
noncomputable def b_is_sound : MX :=
  (xSq (xExpr (mCallX 1 m_check_double_term (aCons (xVar 0) aNil)))
  (xTail (sRet (mCallF 1 m_is_sound_everywhere (aCons (mB dIx (xVar 0) (xC (.int 4))) aNil)))))
noncomputable def m_is_sound : MFX := fnX 1 b_is_sound
def b_is_bounded_in : MS :=
  (sSeq (sSet 1 (mCallF 2 m_whole_lines (aCons (mB dIx (xVar 0) (xC (.int 4))) (aCons (mU dNeg (xC (.int 1))) aNil))))
  (sRet (mAnd (mCall dAny (aCons (xComp (iSeq (xVar 1)) (gTp 3 (gsCons (gNm 2) (gsCons (gNm 3) (gsCons (gNm 4) gsNil)))) mYes (mB dGt (xVar 3) (xC (.int 0))) [2, 3, 4]) aNil)) (mCall dAny (aCons (xComp (iSeq (xVar 1)) (gTp 3 (gsCons (gNm 2) (gsCons (gNm 3) (gsCons (gNm 4) gsNil)))) mYes (mB dLt (xVar 3) (xC (.int 0))) [2, 3, 4]) aNil)))))
def m_is_bounded_in : MF := fnM 5 b_is_bounded_in
noncomputable def b_is_bounded : MX :=
  (xSq (xExpr (mCallX 1 m_check_double_term (aCons (xVar 0) aNil)))
  (xTail (sRet (mCallF 1 m_is_bounded_in (aCons (xVar 0) aNil)))))
noncomputable def m_is_bounded : MFX := fnX 1 b_is_bounded
def b_span_of_k : MS :=
  (sSeq (sParO 2 3 (aOwn (xLst aNil) (aOwn (xLst aNil) aNil)))
  (sSeq (sFor (iSeq (mCallF 2 m_whole_lines (aCons (mB dIx (xVar 0) (xC (.int 4))) (aCons (mU dNeg (xC (.int 1))) aNil)))) (gTp 3 (gsCons (gNm 4) (gsCons (gNm 5) (gsCons (gNm 6) gsNil)))) (sSeq (sSet 7 (mB dAdd (mB dMul (xVar 4) (xVar 1)) (xVar 6)))
  (sSeq (sIf (mTAnd (mTB (mB dEq (xVar 5) (xC (.int 0)))) (mTB (mB dLt (xVar 7) (xC (.int 0))))) (sRet (xC .none)) sNil)
  (sSeq (sIf (mTB (mB dGt (xVar 5) (xC (.int 0)))) (sApp 2 (mB dSub (xC (.int 0)) (mB dDiv (xVar 7) (xVar 5)))) sNil)
  (sIf (mTB (mB dLt (xVar 5) (xC (.int 0)))) (sApp 3 (mB dDiv (xVar 7) (mB dSub (xC (.int 0)) (xVar 5)))) sNil)))))
  (sRet (mIf (mTB (mB dLe (mCall dMaxL (aCons (xVar 2) aNil)) (mCall dMinL (aCons (xVar 3) aNil)))) (xTup (aCons (mCall dMaxL (aCons (xVar 2) aNil)) (aCons (mCall dMinL (aCons (xVar 3) aNil)) aNil))) (xC .none)))))
def m_span_of_k : MF := fnM 8 b_span_of_k
noncomputable def b_bounds_of : MX :=
  (xSq (xExpr (mCallX 1 m_check_double_term (aCons (xVar 0) aNil)))
  (xSq (xIf (mTNot (mTru (mCallF 1 m_is_bounded_in (aCons (xVar 0) aNil)))) (xRaise "InvalidSum" (xVar 0)) xNil)
  (xSq (xExpr (mCallX 1 m_check_number (aCons (xVar 1) aNil)))
  (xTail (sRet (mCallF 2 m_span_of_k (aCons (xVar 0) (aCons (xVar 1) aNil))))))))
noncomputable def m_bounds_of : MFX := fnX 2 b_bounds_of
def b__law_span : MS :=
  (sSeq (sAsg (xTup (aCons (xC .none) (aCons (xC .none) aNil))) (gTp 2 (gsCons (gNm 2) (gsCons (gNm 3) gsNil))))
  (sSeq (sFor (iSeq (xVar 0)) (gTp 3 (gsCons (gNm 4) (gsCons (gNm 5) (gsCons (gNm 6) gsNil)))) (sSeq (sSet 7 (mB dAdd (mB dMul (xVar 4) (xVar 1)) (xVar 6)))
  (sSeq (sIf (mTAnd (mTB (mB dEq (xVar 5) (xC (.int 0)))) (mTB (mB dLt (xVar 7) (xC (.int 0))))) (sRet (xTup (aCons (xC (.int 1)) (aCons (xC (.int 0)) aNil)))) sNil)
  (sSeq (sIf (mTB (mB dGt (xVar 5) (xC (.int 0)))) (sSet 2 (mIf (mTB (mB (dIs not) (xVar 2) (xC .none))) (mCall dMax2 (aCons (mB dSub (xC (.int 0)) (mB dDiv (xVar 7) (xVar 5))) (aCons (xVar 2) aNil))) (mB dSub (xC (.int 0)) (mB dDiv (xVar 7) (xVar 5))))) sNil)
  (sIf (mTB (mB dLt (xVar 5) (xC (.int 0)))) (sSet 3 (mIf (mTB (mB (dIs not) (xVar 3) (xC .none))) (mCall dMin2 (aCons (mB dDiv (xVar 7) (mB dSub (xC (.int 0)) (xVar 5))) (aCons (xVar 3) aNil))) (mB dDiv (xVar 7) (mB dSub (xC (.int 0)) (xVar 5))))) sNil)))))
  (sRet (xTup (aCons (xVar 2) (aCons (xVar 3) aNil))))))
def m__law_span : MF := fnM 8 b__law_span
def b__law_is_some : MS :=
  (sSeq (sAsg (mCallF 2 m__law_span (aCons (xVar 0) (aCons (xVar 1) aNil))) (gTp 2 (gsCons (gNm 2) (gsCons (gNm 3) gsNil))))
  (sRet (mOr (mB (dIs id) (xVar 2) (xC .none)) (mOr (mB (dIs id) (xVar 3) (xC .none)) (mB dLe (xVar 2) (xVar 3))))))
def m__law_is_some : MF := fnM 4 b__law_is_some
def b__law_lacks : MS :=
  (sRet (mB dNe (xComp (iSeq (xVar 0)) (gTp 3 (gsCons (gNm 3) (gsCons (gNm 4) (gsCons (gNm 5) gsNil)))) (mTru (mCallF 2 m__law_is_some (aCons (mB dAdd (xVar 1) (xLst (aCons (xTup (aCons (mB dSub (xC (.int 0)) (xVar 3)) (aCons (mB dSub (xC (.int 0)) (xVar 4)) (aCons (mB dSub (mB dSub (xC (.int 0)) (xVar 5)) (xC (.int 1))) aNil)))) aNil))) (aCons (xVar 2) aNil)))) (xC (.int 1)) [3, 4, 5]) (xLst aNil)))
def m__law_lacks : MF := fnM 6 b__law_lacks
def b__law_sound_double : MS :=
  (sSeq (sAsg (xTup (aCons (mCallF 2 m__law_lines (aCons (xVar 0) (aCons (xC (.int 1)) aNil))) (aCons (mCallF 2 m__law_lines (aCons (xVar 0) (aCons (mB dSub (xC (.int 0)) (xC (.int 1))) aNil))) aNil))) (gTp 2 (gsCons (gNm 1) (gsCons (gNm 2) gsNil))))
  (sRet (mB dEq (xComp (iRg1 (aCons (xC (.int 120)) aNil)) (gNm 3) (mTru (mCallF 3 m__law_lacks (aCons (xVar 1) (aCons (xVar 2) (aCons (xVar 3) aNil))))) (xVar 3) [3]) (xLst aNil))))
def m__law_sound_double : MF := fnM 4 b__law_sound_double
noncomputable def b__law_caught : MS :=
  (sSeq (sSet 2 (xC .none))
  (sSeq (sTry "SameError" 3 2 (xIf (mTB (mB dGt (mCall dLen (aCons (xVar 1) aNil)) (xC (.int 1)))) (xExpr (mCallL [("bounds_of", m_bounds_of)] 2 0 (aCons (mB dIx (xVar 1) (xC (.int 0))) (aCons (mB dIx (xVar 1) (xC (.int 1))) aNil)))) (xExpr (mCallL [("is_sound", m_is_sound), ("is_bounded", m_is_bounded)] 1 0 (aCons (mB dIx (xVar 1) (xC (.int 0))) aNil)))))
  (sRet (xLst (aCons (mIsX "InvalidSum" (xVar 2)) (aCons (mIsX "InvalidNumber" (xVar 2)) (aCons (mIf (mTB (mIsN not (xVar 2))) (mCall dReprG (aCons (mVal (xVar 2)) aNil)) (xC (.str ""))) aNil)))))))
noncomputable def m__law_caught : MF := fnM 4 b__law_caught
noncomputable def b__law_right : MS :=
  (sSeq (sSet 1 (mCallF 1 m__law_raw_double (aCons (xVar 0) aNil)))
  (sSeq (sParO 6 7 (aDat (mCall dReprG (aCons (xVar 1) aNil)) (aDat (mCallF 2 m__law_lines (aCons (mB dIx (xVar 1) (xC (.int 4))) (aCons (mB dSub (xC (.int 0)) (xC (.int 1))) aNil))) aNil)))
  (sSeq (sSet 2 (mCallF 1 m__law_sound_double (aCons (mB dIx (xVar 1) (xC (.int 4))) aNil)))
  (sSeq (sIf (mTB (mB dNe (mCall dReprG (aCons (xLst (aCons (mCallF 1 (okM m_is_sound) (aCons (xVar 1) aNil)) (aCons (mCallK 0 1 1 [0] (okM m_is_sound) aNil (aCons (xVar 1) aNil)) aNil))) aNil)) (mCall dReprG (aCons (xLst (aCons (xVar 2) (aCons (xVar 2) aNil))) aNil)))) (sRet (xC (.bool false))) sNil)
  (sSeq (sSet 3 (xLst (aCons (mB dNe (xComp (iSeq (xVar 7)) (gNm 11) (mTB (mB dGt (mB dIx (xVar 11) (xC (.int 1))) (xC (.int 0)))) (xVar 11) [11]) (xLst aNil)) (aCons (mB dNe (xComp (iSeq (xVar 7)) (gNm 11) (mTB (mB dLt (mB dIx (xVar 11) (xC (.int 1))) (xC (.int 0)))) (xVar 11) [11]) (xLst aNil)) aNil))))
  (sSeq (sIf (mTB (mB dNe (mCall dReprG (aCons (xLst (aCons (mCallF 1 (okM m_is_bounded) (aCons (xVar 1) aNil)) (aCons (mCallK 0 1 1 [0] (okM m_is_bounded) aNil (aCons (xVar 1) aNil)) aNil))) aNil)) (mCall dReprG (aCons (mB dMul (xLst (aCons (mB dEq (xVar 3) (xLst (aCons (xC (.bool true)) (aCons (xC (.bool true)) aNil)))) aNil)) (xC (.int 2))) aNil)))) (sRet (xC (.bool false))) sNil)
  (sSeq (sIf (mTB (mB dNe (xVar 3) (xLst (aCons (xC (.bool true)) (aCons (xC (.bool true)) aNil))))) (sRet (mAnd (mB dEq (mCallF 2 m__law_caught (aCons (xC (fnD "bounds_of")) (aCons (xLst (aCons (xVar 1) (aCons (xC .none) aNil))) aNil))) (xLst (aCons (xC (.bool true)) (aCons (xC (.bool false)) (aCons (xVar 6) aNil))))) (mB dEq (mCallF 2 m__law_caught (aCons (xC (fnD "bounds_of")) (aCons (xLst (aCons (xVar 1) (aCons (xC (.int 3)) aNil))) aNil))) (xLst (aCons (xC (.bool true)) (aCons (xC (.bool false)) (aCons (xVar 6) aNil))))))) sNil)
  (sSeq (sFor (iSeq (xLst (aCons (xC (.int 0)) (aCons (xC (.int 1)) (aCons (xC (.int 2)) (aCons (mCallF 2 m__law_random (aCons (xVar 0) (aCons (xC (.int 12)) aNil))) (aCons (xC (.int 60)) (aCons (xC (.int 300)) aNil)))))))) (gNm 4) (sSeq (sAsg (mCallF 2 m__law_span (aCons (xVar 7) (aCons (xVar 4) aNil))) (gTp 2 (gsCons (gNm 9) (gsCons (gNm 10) gsNil))))
  (sSeq (sSet 2 (mIf (mTB (mB dLe (xVar 9) (xVar 10))) (xTup (aCons (xVar 9) (aCons (xVar 10) aNil))) (xC .none)))
  (sSeq (sIf (mTB (mB dNe (mCall dReprG (aCons (xLst (aCons (mCallF 2 (okM m_bounds_of) (aCons (xVar 1) (aCons (xVar 4) aNil))) (aCons (mCallK 0 2 2 [1, 0] (okM m_bounds_of) aNil (aCons (xVar 4) (aCons (xVar 1) aNil))) aNil))) aNil)) (mCall dReprG (aCons (xLst (aCons (xVar 2) (aCons (xVar 2) aNil))) aNil)))) (sRet (xC (.bool false))) sNil)
  (sFor (iSeq (mIf (mTB (mB (dIs not) (xVar 2) (xC .none))) (xLst (aCons (mB dSub (xVar 9) (xC (.int 1))) (aCons (mB dAdd (xVar 10) (xC (.int 1))) aNil))) (xLst (aCons (xC (.int 0)) (aCons (xC (.int 1)) aNil))))) (gNm 8) (sIf (mTAnd (mTB (mB dNe (mCallF 3 m_double_value (aCons (xVar 1) (aCons (mCall dMin2 (aCons (xVar 4) (aCons (xC (.int 12)) aNil))) (aCons (xVar 8) aNil)))) (xTup (aCons (xC (.int 0)) (aCons (xC (.int 1)) aNil))))) (mTB (mB dLt (xVar 4) (xC (.int 13))))) (sRet (xC (.bool false))) sNil))))))
  (sSeq (sFor (iSeq (xLst (aCons (xC .none) (aCons (xC (.bool true)) (aCons (mB dSub (xC (.int 0)) (xC (.int 1))) (aCons (xC (.str "1")) (aCons (xLst (aCons (xC (.int 1)) aNil)) (aCons (xTup (aCons (xC (.int 1)) aNil)) (aCons (xC (.dict [])) aNil))))))))) (gNm 5) (sIf (mTB (mB dNe (mCallF 2 m__law_caught (aCons (xC (fnD "bounds_of")) (aCons (xLst (aCons (xVar 1) (aCons (xVar 5) aNil))) aNil))) (xLst (aCons (xC (.bool false)) (aCons (xC (.bool true)) (aCons (mCall dReprG (aCons (xVar 5) aNil)) aNil)))))) (sRet (xC (.bool false))) sNil))
  (sRet (mB dEq (mCall dReprG (aCons (xVar 1) aNil)) (xVar 6))))))))))))
noncomputable def m__law_right : MF := fnM 12 b__law_right
def b__law_no_doubles : MS :=
  (sSeq (sAsg (xTup (aCons (xTup (aCons (xC (.int 1)) (aCons (xC (.int 1)) aNil))) (aCons (xTup (aCons (xC (.int 0)) (aCons (xC (.int 1)) (aCons (xC (.int 0)) aNil)))) aNil))) (gTp 2 (gsCons (gNm 2) (gsCons (gNm 3) gsNil))))
  (sSeq (sSet 0 (xLst (aCons (xLst (aCons (xTup (aCons (xVar 2) (aCons (xVar 3) (aCons (xC (.int 1)) aNil)))) (aCons (xTup (aCons (xVar 2) (aCons (xVar 3) (aCons (mB dSub (xC (.int 0)) (xC (.int 1))) aNil)))) aNil))) (aCons (xLst (aCons (xTup (aCons (xTup (aCons (xC (.int 3)) (aCons (xC (.int 2)) aNil))) (aCons (xVar 3) (aCons (xC (.int 1)) aNil)))) aNil)) (aCons (xLst (aCons (xTup (aCons (xVar 2) (aCons (xVar 3) (aCons (xC (.int 2)) aNil)))) aNil)) (aCons (xLst (aCons (xTup (aCons (xVar 2) (aCons (xVar 3) (aCons (xC (.bool true)) aNil)))) aNil)) (aCons (xLst (aCons (xTup (aCons (xTup (aCons (xC (.int 2)) (aCons (xC (.int 4)) aNil))) (aCons (xVar 3) (aCons (xC (.int 1)) aNil)))) aNil)) (aCons (xLst (aCons (xTup (aCons (xVar 2) (aCons (xTup (aCons (xC (.int 0)) (aCons (xC (.bool true)) (aCons (xC (.int 0)) aNil)))) (aCons (xC (.int 1)) aNil)))) aNil)) (aCons (xLst (aCons (xLst (aCons (xVar 2) (aCons (xVar 3) (aCons (xC (.int 1)) aNil)))) aNil)) aNil)))))))))
  (sSeq (sSet 1 (xComp (iSeq (mB dAdd (xVar 0) (xLst (aCons (xLst (aCons (xTup (aCons (xVar 2) (aCons (xLst (aCons (xC (.int 0)) (aCons (xC (.int 1)) (aCons (xC (.int 0)) aNil)))) (aCons (xC (.int 1)) aNil)))) aNil)) (aCons (xLst (aCons (xTup (aCons (xTup (aCons (xC (.int 0)) (aCons (xC (.int 1)) aNil))) (aCons (xVar 3) (aCons (xC (.int 1)) aNil)))) aNil)) (aCons (xLst (aCons (xTup (aCons (xVar 2) (aCons (xVar 3) aNil))) aNil)) (aCons (xTup aNil) (aCons (xC .none) aNil)))))))) (gNm 4) mYes (xTup (aCons (xC (.str "double")) (aCons (xLst (aCons (xLst (aCons (xC (.int 1)) aNil)) aNil)) (aCons (xVar 2) (aCons (xVar 2) (aCons (xVar 4) aNil)))))) [4]))
  (sSeq (sSet 1 (mB dAdd (xVar 1) (xComp (iSeq (xLst (aCons (xLst (aCons (xLst (aCons (xC (.bool true)) aNil)) aNil)) (aCons (xLst (aCons (xLst (aCons (xC (.int 1)) (aCons (xC (.int 0)) aNil))) aNil)) (aCons (xLst (aCons (xLst (aCons (xC (.int 1)) aNil)) (aCons (xLst aNil) aNil))) (aCons (xLst (aCons (xTup (aCons (xC (.int 1)) aNil)) aNil)) (aCons (xTup (aCons (xLst (aCons (xC (.int 1)) aNil)) aNil)) (aCons (xC .none) (aCons (xLst (aCons (xC (.int 1)) aNil)) aNil))))))))) (gNm 4) mYes (xTup (aCons (xC (.str "double")) (aCons (xVar 4) (aCons (xVar 2) (aCons (xVar 2) (aCons (xLst aNil) aNil)))))) [4])))
  (sSeq (sSet 1 (mB dAdd (mB dAdd (xVar 1) (xComp (iSeq (xLst (aCons (xTup (aCons (xC (.int 2)) (aCons (xC (.int 4)) aNil))) (aCons (xTup (aCons (xC (.bool true)) (aCons (xC (.int 1)) aNil))) (aCons (xTup (aCons (xC (.int 0)) (aCons (xC (.int 1)) aNil))) (aCons (xLst (aCons (xC (.int 1)) (aCons (xC (.int 1)) aNil))) (aCons (xTup (aCons (xC (.int 1)) (aCons (xC (.int 0)) aNil))) (aCons (xC .none) aNil)))))))) (gNm 4) mYes (xTup (aCons (xC (.str "double")) (aCons (xLst (aCons (xLst (aCons (xC (.int 1)) aNil)) aNil)) (aCons (xVar 4) (aCons (xVar 2) (aCons (xLst aNil) aNil)))))) [4])) (xLst (aCons (xTup (aCons (xC (.str "Double")) (aCons (xLst (aCons (xLst (aCons (xC (.int 1)) aNil)) aNil)) (aCons (xVar 2) (aCons (xVar 2) (aCons (xLst aNil) aNil)))))) aNil))))
  (sRet (mB dAdd (mB dAdd (xVar 1) (xComp (iSeq (xLst (aCons (xTup (aCons (xC (.int 2)) (aCons (xC (.int 4)) aNil))) (aCons (xTup (aCons (xC (.int 1)) (aCons (xC (.bool true)) aNil))) (aCons (xTup (aCons (xC (.int 0)) (aCons (xC (.int 1)) aNil))) (aCons (xLst (aCons (xC (.int 1)) (aCons (xC (.int 1)) aNil))) (aCons (xTup (aCons (mB dSub (xC (.int 0)) (xC (.int 1))) (aCons (xC (.int 0)) aNil))) (aCons (xC .none) aNil)))))))) (gNm 4) mYes (xTup (aCons (xC (.str "double")) (aCons (xLst (aCons (xLst (aCons (xC (.int 1)) aNil)) aNil)) (aCons (xVar 2) (aCons (xVar 4) (aCons (xLst aNil) aNil)))))) [4])) (xLst (aCons (xTup (aCons (xLst (aCons (xC (.str "double")) aNil)) (aCons (xLst (aCons (xLst (aCons (xC (.int 1)) aNil)) aNil)) (aCons (xVar 2) (aCons (xVar 2) (aCons (xLst aNil) aNil)))))) aNil)))))))))
def m__law_no_doubles : MF := fnM 5 b__law_no_doubles
noncomputable def b_law : MS :=
  (sSeq (sFor (iRg1 (aCons (xC (.int 3)) aNil)) (gNm 1) (sSeq (sOwn 6 (mCallF 2 m__law_generator (aCons (xVar 0) (aCons (xVar 1) aNil))))
  (sFor (iRg1 (aCons (xC (.int 5)) aNil)) (gNm 7) (sIf (mTNot (mTru (mCallF 1 m__law_right (aCons (xVar 6) aNil)))) (sRet (xC (.bool false))) sNil))))
  (sSeq (sSet 2 (xLst (aCons (xC .none) (aCons (xTup aNil) (aCons (xLst aNil) (aCons (xC (.str "double")) (aCons (xC (.int 7)) (aCons (xC (.dict [])) (aCons (xTup (aCons (xC (.str "double")) (aCons (xLst (aCons (xLst (aCons (xC (.int 1)) aNil)) aNil)) (aCons (xTup (aCons (xC (.int 1)) (aCons (xC (.int 1)) aNil))) (aCons (xTup (aCons (xC (.int 1)) (aCons (xC (.int 1)) aNil))) aNil))))) (aCons (xTup (aCons (xC (.str "double")) (aCons (xLst (aCons (xLst (aCons (xC (.int 0)) aNil)) aNil)) (aCons (xTup (aCons (xC (.int 1)) (aCons (xC (.int 1)) aNil))) (aCons (xTup (aCons (xC (.int 1)) (aCons (xC (.int 1)) aNil))) (aCons (xLst aNil) aNil)))))) (aCons (xTup (aCons (xC (.str "term")) (aCons (xLst (aCons (xC (.int 1)) aNil)) (aCons (xTup (aCons (xC (.int 1)) (aCons (xC (.int 1)) aNil))) (aCons (xLst aNil) aNil))))) aNil)))))))))))
  (sSeq (sFor (iSeq (mB dAdd (xVar 2) (mCallF 0 m__law_no_doubles aNil))) (gNm 3) (sSeq (sFor (iSeq (xLst (aCons (xC .none) (aCons (xC (.int 1)) aNil)))) (gNm 8) (sIf (mTB (mB dNe (mCallF 2 m__law_caught (aCons (xC (fnD "bounds_of")) (aCons (xLst (aCons (xVar 3) (aCons (xVar 8) aNil))) aNil))) (xLst (aCons (xC (.bool true)) (aCons (xC (.bool false)) (aCons (mCall dReprG (aCons (xVar 3) aNil)) aNil)))))) (sRet (xC (.bool false))) sNil))
  (sIf (mTB (mB dNe (xComp (iSeq (xLst (aCons (xC (fnD "is_sound")) (aCons (xC (fnD "is_bounded")) aNil)))) (gNm 9) (mTB (mB dNe (mCallF 2 m__law_caught (aCons (xVar 9) (aCons (xLst (aCons (xVar 3) aNil)) aNil))) (xLst (aCons (xC (.bool true)) (aCons (xC (.bool false)) (aCons (mCall dReprG (aCons (xVar 3) aNil)) aNil)))))) (xVar 9) [9]) (xLst aNil))) (sRet (xC (.bool false))) sNil)))
  (sSeq (sIf (mTB (mB (dIs not) (mCallF 1 (okM m_is_sound) (aCons (xTup (aCons (xC (.str "double")) (aCons (xLst (aCons (xLst (aCons (xC (.int 1)) aNil)) aNil)) (aCons (xTup (aCons (xC (.int 1)) (aCons (xC (.int 1)) aNil))) (aCons (xTup (aCons (xC (.int 1)) (aCons (xC (.int 1)) aNil))) (aCons (xLst (aCons (xTup (aCons (xTup (aCons (xC (.int 1)) (aCons (xC (.int 1)) aNil))) (aCons (xTup (aCons (mB dSub (xC (.int 0)) (xC (.int 1))) (aCons (xC (.int 5)) (aCons (xC (.int 20)) aNil)))) (aCons (xC (.int 1)) aNil)))) (aCons (xTup (aCons (xTup (aCons (xC (.int 1)) (aCons (xC (.int 1)) aNil))) (aCons (xTup (aCons (mB dSub (xC (.int 0)) (xC (.int 1))) (aCons (xC (.int 6)) (aCons (mB dSub (xC (.int 0)) (xC (.int 20))) aNil)))) (aCons (mB dSub (xC (.int 0)) (xC (.int 1))) aNil)))) aNil))) aNil)))))) aNil)) (xC (.bool false)))) (sRet (xC (.bool false))) sNil)
  (sSeq (sSet 4 (xTup (aCons (xC (.str "double")) (aCons (xLst (aCons (xLst (aCons (xC (.int 1)) aNil)) aNil)) (aCons (xTup (aCons (xC (.int 1)) (aCons (xC (.int 1)) aNil))) (aCons (xTup (aCons (xC (.int 1)) (aCons (xC (.int 1)) aNil))) (aCons (xLst (aCons (xTup (aCons (xTup (aCons (xC (.int 1)) (aCons (xC (.int 1)) aNil))) (aCons (xTup (aCons (mB dSub (xC (.int 0)) (xC (.int 1))) (aCons (xC (.int 2)) (aCons (xC (.int 0)) aNil)))) (aCons (mB dSub (xC (.int 0)) (xC (.int 1))) aNil)))) (aCons (xTup (aCons (xTup (aCons (xC (.int 1)) (aCons (xC (.int 1)) aNil))) (aCons (xTup (aCons (mB dSub (xC (.int 0)) (xC (.int 1))) (aCons (xC (.int 3)) (aCons (xC (.int 0)) aNil)))) (aCons (xC (.int 1)) aNil)))) (aCons (xTup (aCons (xTup (aCons (xC (.int 1)) (aCons (xC (.int 1)) aNil))) (aCons (xTup (aCons (xC (.int 1)) (aCons (mB dSub (xC (.int 0)) (xC (.int 1))) (aCons (xC (.int 0)) aNil)))) (aCons (mB dSub (xC (.int 0)) (xC (.int 1))) aNil)))) aNil)))) aNil)))))))
  (sSeq (sSet 5 (xTup (aCons (xC (.str "double")) (aCons (xLst (aCons (xLst (aCons (xC (.int 1)) aNil)) aNil)) (aCons (xTup (aCons (xC (.int 1)) (aCons (xC (.int 1)) aNil))) (aCons (xTup (aCons (xC (.int 1)) (aCons (xC (.int 1)) aNil))) (aCons (xLst (aCons (xTup (aCons (xTup (aCons (xC (.int 1)) (aCons (xC (.int 1)) aNil))) (aCons (xTup (aCons (mB dSub (xC (.int 0)) (xC (.int 1))) (aCons (xC (.int 2)) (aCons (xC (.int 0)) aNil)))) (aCons (xC (.int 1)) aNil)))) (aCons (xTup (aCons (xTup (aCons (xC (.int 1)) (aCons (xC (.int 1)) aNil))) (aCons (xTup (aCons (xC (.int 0)) (aCons (xC (.int 1)) (aCons (xC (.int 0)) aNil)))) (aCons (mB dSub (xC (.int 0)) (xC (.int 1))) aNil)))) (aCons (xTup (aCons (xTup (aCons (xC (.int 1)) (aCons (xC (.int 1)) aNil))) (aCons (xTup (aCons (xC (.int 1)) (aCons (mB dSub (xC (.int 0)) (xC (.int 1))) (aCons (xC (.int 0)) aNil)))) (aCons (mB dSub (xC (.int 0)) (xC (.int 1))) aNil)))) aNil)))) aNil)))))))
  (sRet (mB dEq (xLst (aCons (mCallF 1 (okM m_is_sound) (aCons (xVar 4) aNil)) (aCons (mCallF 1 (okM m_is_sound) (aCons (xVar 5) aNil)) (aCons (mCallF 2 (okM m_bounds_of) (aCons (xVar 4) (aCons (xC (.int 7)) aNil))) (aCons (mCallF 2 (okM m_bounds_of) (aCons (xVar 5) (aCons (xC (.int 7)) aNil))) (aCons (mCallF 1 (okM m_is_bounded) (aCons (xTup (aCons (xC (.str "double")) (aCons (xLst aNil) (aCons (xTup (aCons (xC (.int 1)) (aCons (xC (.int 1)) aNil))) (aCons (xTup (aCons (xC (.int 1)) (aCons (xC (.int 1)) aNil))) (aCons (xLst aNil) aNil)))))) aNil)) aNil)))))) (xLst (aCons (xC (.bool true)) (aCons (xC (.bool false)) (aCons (xTup (aCons (xC (.int 4)) (aCons (xC (.int 7)) aNil))) (aCons (xTup (aCons (xC (.int 0)) (aCons (xC (.int 7)) aNil))) (aCons (xC (.bool false)) aNil))))))))))))))
noncomputable def m_law : MF := fnM 10 b_law
end My
namespace My
open PySem PySem.Spec PyProof.Rows L2 DL
/-! what factors come to -/
structure Fc where
  p : Int
  q : Int
  a : Int
  b : Int
  c : Int
  e : Int
def Fc.line (f : Fc) : D := .tuple [.int f.a, .int f.b, .int f.c]
def Fc.d (f : Fc) : D := .tuple [.tuple [.int f.p, .int f.q], f.line, .int f.e]
structure Fc.Ok (f : Fc) : Prop where
  rs : RS f.p f.q
  a : f.a.natAbs ≤ 3
  b : f.b.natAbs ≤ 3
  c : f.c.natAbs ≤ 3
  e : f.e = 1 ∨ f.e = -1
def Fc.m (f : Fc) (n k : Int) : Int := f.a * n + f.b * k + f.c
def Fc.one (f : Fc) : Bool := isOne f.p f.q
structure Nk (n k : Int) : Prop where
  s : n.natAbs + k.natAbs ≤ 19
  n : n.natAbs ≤ 16
  k : k.natAbs ≤ 16
theorem mul_nat {a b : Int} {x y : Nat} (h1 : a.natAbs ≤ x) (h2 : b.natAbs ≤ y) : (a * b).natAbs ≤ x * y := by
  rw [Int.natAbs_mul]
  exact Nat.mul_le_mul h1 h2
theorem Fc.Ok.m {f : Fc} (h : f.Ok) {n k : Int} (z : Nk n k) : (f.m n k).natAbs ≤ 60 := by
  have h1 := mul_nat (b := n) h.a (Nat.le_refl _)
  have h2 := mul_nat (b := k) h.b (Nat.le_refl _)
  have h3 := h.c
  have h4 := z.s
  unfold Fc.m
  generalize f.a * n = x at h1 ⊢
  generalize f.b * k = y at h2 ⊢
  omega
theorem lw_eq {f : Fc} {n k : Int} {cs : Cs} (h : f.Ok) (z : Nk n k) : m_line_worth [.dat f.line, .dat (.int n), .dat (.int k)] cs = some (.dat (.int (f.m n k)), cs) := by
  have h1 := h.a
  have h2 := h.b
  have h3 := h.c
  have z1 := z.n
  have z2 := z.k
  refine em_eq ?_
  unfold m_line_worth
  rw [em_fnM]
  unfold b_line_worth Fc.line
  simp [dIx3_0, dIx3_1, dIx3_2, dMul_int (cml (i := f.a) (j := n) 4 10 (by omega) (by omega)), dMul_int (cml (i := f.b) (j := k) 4 10 (by omega) (by omega)), dAdd_int]
  rfl
theorem llw_eq {f : Fc} {n k : Int} {cs : Cs} (h : f.Ok) (z : Nk n k) : m__law_line [.dat f.line, .dat (.int n), .dat (.int k)] cs = some (.dat (.int (f.m n k)), cs) := by
  have h1 := h.a
  have h2 := h.b
  have h3 := h.c
  have z1 := z.n
  have z2 := z.k
  refine em_eq ?_
  unfold m__law_line
  rw [em_fnM]
  unfold b__law_line Fc.line
  simp [dIx3_0, dIx3_1, dIx3_2, dMul_int (cml (i := f.a) (j := n) 4 10 (by omega) (by omega)), dMul_int (cml (i := f.b) (j := k) 4 10 (by omega) (by omega)), dAdd_int]
  rfl
def Fcs (fs : List Fc) : Prop := fs.length ≤ 10 ∧ ∀ f ∈ fs, f.Ok
def dOf (fs : List Fc) : D := .list (fs.map Fc.d)
def pk (E : Int) (f : Fc) : Bool := f.one && f.e == E
theorem wl_eq {fs : List Fc} {E : Int} {cs : Cs} (h : Fcs fs) : m_whole_lines [.dat (dOf fs), .dat (.int E)] cs = some (.fr ((fs.filter (pk E)).map Fc.line), cs) := by
  refine em_eq ?_
  unfold m_whole_lines
  rw [em_fnM]
  unfold b_whole_lines dOf
  simp
  refine ec_pure (fun d => match d with | .tuple [.tuple [.int p, .int q], _, .int e] => isOne p q && e == E | _ => false) (fun d => match d with | .tuple [_, l, _] => l | _ => .none) (fun x hx cs' => ?_) (le_size (by have := h.1; simp; omega)) ?_
  · obtain ⟨f, hf, rfl⟩ := List.mem_map.mp hx
    unfold Fc.d
    simp [wipeR, dEq_one]
    cases hi : isOne f.p f.q <;> simp [fdEq_int, hi]
  · simp
    have e : ∀ l : List Fc, List.map (fun d => match d with | .tuple [_, l, _] => l | _ => PyData.none) (List.filter (fun d => match d with | .tuple [.tuple [.int p, .int q], _, .int e] => isOne p q && e == E | _ => false) (l.map Fc.d)) = (l.filter (pk E)).map Fc.line := by
      intro l
      induction l with
      | nil => rfl
      | cons f r ih =>
        rw [List.map_cons, List.filter_cons, List.filter_cons]
        show (if (isOne f.p f.q && f.e == E) = true then _ else _ : List D).map _ = _
        unfold pk Fc.one
        cases (isOne f.p f.q && f.e == E) with
        | true =>
          simp only [if_pos, List.map_cons]
          rw [ih]
          rfl
        | false =>
          simp
          exact ih
    exact e fs
theorem lwl_eq {fs : List Fc} {E : Int} {cs : Cs} (h : Fcs fs) : m__law_lines [.dat (dOf fs), .dat (.int E)] cs = some (.fr ((fs.filter (pk E)).map Fc.line), cs) := by
  refine em_eq ?_
  unfold m__law_lines
  rw [em_fnM]
  unfold b__law_lines dOf
  simp
  refine ec_pure (fun d => match d with | .tuple [.tuple [.int p, .int q], _, .int e] => isOne p q && e == E | _ => false) (fun d => match d with | .tuple [_, l, _] => l | _ => .none) (fun x hx cs' => ?_) (le_size (by have := h.1; simp; omega)) ?_
  · obtain ⟨f, hf, rfl⟩ := List.mem_map.mp hx
    unfold Fc.d
    simp [wipeR, dEq_one, le_size]
    cases hi : isOne f.p f.q <;> simp [fdEq_int, hi]
  · simp
    have e : ∀ l : List Fc, List.map (fun d => match d with | .tuple [_, l, _] => l | _ => PyData.none) (List.filter (fun d => match d with | .tuple [.tuple [.int p, .int q], _, .int e] => isOne p q && e == E | _ => false) (l.map Fc.d)) = (l.filter (pk E)).map Fc.line := by
      intro l
      induction l with
      | nil => rfl
      | cons f r ih =>
        rw [List.map_cons, List.filter_cons, List.filter_cons]
        show (if (isOne f.p f.q && f.e == E) = true then _ else _ : List D).map _ = _
        unfold pk Fc.one
        cases (isOne f.p f.q && f.e == E) with
        | true =>
          simp only [if_pos, List.map_cons]
          rw [ih]
          rfl
        | false =>
          simp
          exact ih
    exact e fs
end My
namespace My
open PySem PySem.Spec PyProof.Rows L2 DL
structure Ln where
  a : Int
  b : Int
  c : Int
def Ln.d (l : Ln) : D := .tuple [.int l.a, .int l.b, .int l.c]
def Ln.w (l : Ln) (n : Int) : Int := l.a * n + l.c
def Feas (L : List Ln) (n : Int) : Prop := (∀ l ∈ L, l.b = 0 → 0 ≤ l.w n) ∧ ∀ l ∈ L, l.b < 0 → ∀ m ∈ L, 0 < m.b → 0 ≤ l.w n / (0 - l.b) + m.w n / m.b
/-! one count's lines, by steps -/
def zsL (L : List Ln) (s r : Int) : List (Int × Int) := (L.filter fun l => decide (l.b = 0)).map fun l => (l.a * s, l.w r)
def lsL (L : List Ln) (s r : Int) : List (Int × Int) := (L.filter fun l => decide (0 < l.b)).map fun l => (0 - l.a * (s / l.b), 0 - l.w r / l.b)
def msL (L : List Ln) (s r : Int) : List (Int × Int) := (L.filter fun l => decide (l.b < 0)).map fun l => (l.a * (s / (0 - l.b)), l.w r / (0 - l.b))
def byS (L : List Ln) (s r : Int) : List (Int × Int) := zsL L s r ++ ((msL L s r).map fun m => (lsL L s r).map fun l => (m.1 - l.1, m.2 - l.2)).flatten
theorem w_div {l : Ln} {s t r b q : Int} (hb : b ≠ 0) (hq : s = b * q) : l.w (t * s + r) / b = l.a * q * t + l.w r / b := by
  unfold Ln.w
  have e : l.a * (t * s + r) + l.c = (l.a * r + l.c) + l.a * q * t * b := by
    rw [hq]
    rw [Int.mul_add]
    have : l.a * (t * (b * q)) = l.a * q * t * b := by ac_rfl
    omega
  rw [e, Int.add_mul_ediv_right _ _ hb]
  omega
theorem byS_feas {L : List Ln} {s r t : Int} (hd : ∀ l ∈ L, l.b ≠ 0 → l.b ∣ s) : Feas L (t * s + r) ↔ ∀ p ∈ byS L s r, 0 ≤ p.1 * t + p.2 := by
  have key : ∀ l ∈ L, l.b < 0 → ∀ m ∈ L, 0 < m.b → l.w (t * s + r) / (0 - l.b) + m.w (t * s + r) / m.b = (l.a * (s / (0 - l.b)) - (0 - m.a * (s / m.b))) * t + (l.w r / (0 - l.b) - (0 - m.w r / m.b)) := by
    intro l hl lb m hm mb
    obtain ⟨q1, e1⟩ := hd l hl (by omega)
    obtain ⟨q2, e2⟩ := hd m hm (by omega)
    have e1' : s = (0 - l.b) * (-q1) := by rw [e1, Int.zero_sub, Int.neg_mul_neg]
    have z1 : s / (0 - l.b) = -q1 := by rw [e1', Int.mul_ediv_cancel_left _ (by omega)]
    have z2 : s / m.b = q2 := by rw [e2, Int.mul_ediv_cancel_left _ (by omega)]
    rw [w_div (by omega) e1', w_div (by omega) e2, z1, z2]
    have : (l.a * -q1 - (0 - m.a * q2)) * t = l.a * -q1 * t + m.a * q2 * t := by
      rw [Int.zero_sub, Int.sub_neg, Int.add_mul]
    omega
  constructor
  · rintro ⟨h1, h2⟩ p hp
    rcases List.mem_append.mp hp with q | q
    · obtain ⟨l, hl, rfl⟩ := List.mem_map.mp q
      obtain ⟨hl, hb⟩ := List.mem_filter.mp hl
      have := h1 l hl (of_decide_eq_true hb)
      unfold Ln.w at *
      show 0 ≤ l.a * s * t + (l.a * r + l.c)
      have e : l.a * (t * s + r) = l.a * s * t + l.a * r := by
        rw [Int.mul_add, Int.mul_comm t s, Int.mul_assoc]
      omega
    · obtain ⟨ps, hps, hp⟩ := List.mem_flatten.mp q
      obtain ⟨x, hx, rfl⟩ := List.mem_map.mp hps
      obtain ⟨y, hy, rfl⟩ := List.mem_map.mp hp
      obtain ⟨l, hl, rfl⟩ := List.mem_map.mp hx
      obtain ⟨m, hm, rfl⟩ := List.mem_map.mp hy
      obtain ⟨hl, lb⟩ := List.mem_filter.mp hl
      obtain ⟨hm, mb⟩ := List.mem_filter.mp hm
      have lb := of_decide_eq_true lb
      have mb := of_decide_eq_true mb
      have := h2 l hl lb m hm mb
      rw [key l hl lb m hm mb] at this
      exact this
  · intro h
    refine ⟨fun l hl hb => ?_, fun l hl lb m hm mb => ?_⟩
    · have := h (l.a * s, l.w r) (List.mem_append_left _ (List.mem_map.mpr ⟨l, List.mem_filter.mpr ⟨hl, decide_eq_true hb⟩, rfl⟩))
      unfold Ln.w at *
      have this : 0 ≤ l.a * s * t + (l.a * r + l.c) := this
      have e : l.a * (t * s + r) = l.a * s * t + l.a * r := by
        rw [Int.mul_add, Int.mul_comm t s, Int.mul_assoc]
      omega
    · rw [key l hl lb m hm mb]
      refine h (_, _) (List.mem_append_right _ (List.mem_flatten.mpr ⟨_, List.mem_map.mpr ⟨(l.a * (s / (0 - l.b)), l.w r / (0 - l.b)), List.mem_map.mpr ⟨l, List.mem_filter.mpr ⟨hl, decide_eq_true lb⟩, rfl⟩, rfl⟩, List.mem_map.mpr ⟨(0 - m.a * (s / m.b), 0 - m.w r / m.b), List.mem_map.mpr ⟨m, List.mem_filter.mpr ⟨hm, decide_eq_true mb⟩, rfl⟩, rfl⟩⟩))
/-! where no line in one unknown is below 0 -/
def loS (s x lo : Int) : Int := if s > 0 then (if 0 - x / s > lo then 0 - x / s else lo) else lo
def hiS (s x : Int) (hi : Option Int) : Option Int := if s < 0 then some (match hi with
    | none => x / (0 - s)
    | some h => if x / (0 - s) < h then x / (0 - s) else h) else hi
def okS (lo : Int) (hi : Option Int) : Bool := match hi with
  | none => true
  | some h => decide (lo ≤ h)
def spW : List (Int × Int) → Int → Option Int → Option (Int × Option Int)
  | [], lo, hi => if okS lo hi = true then some (lo, hi) else none
  | (s, x) :: r, lo, hi => if s = 0 ∧ x < 0 then none else spW r (loS s x lo) (hiS s x hi)
def Sat (ls : List (Int × Int)) (lo : Int) (hi : Option Int) (t : Int) : Prop := lo ≤ t ∧ (∀ h, hi = some h → t ≤ h) ∧ ∀ p ∈ ls, 0 ≤ p.1 * t + p.2
theorem sat_cons {s x : Int} {r : List (Int × Int)} {lo : Int} {hi : Option Int} {t : Int} : Sat ((s, x) :: r) lo hi t ↔ ¬ (s = 0 ∧ x < 0) ∧ Sat r (loS s x lo) (hiS s x hi) t := by
  have hp : (∀ p ∈ (s, x) :: r, 0 ≤ p.1 * t + p.2) ↔ 0 ≤ s * t + x ∧ ∀ p ∈ r, 0 ≤ p.1 * t + p.2 := by simp
  unfold Sat
  rw [hp]
  rcases Int.lt_trichotomy s 0 with h | h | h
  · have e1 : loS s x lo = lo := by unfold loS; rw [if_neg (by omega)]
    have z : t ≤ x / (0 - s) ↔ 0 ≤ s * t + x := by
      rw [Int.le_ediv_iff_mul_le (by omega)]
      have : t * (0 - s) = - (s * t) := by rw [Int.zero_sub, Int.mul_neg, Int.mul_comm]
      omega
    have e2 : (∀ h, hiS s x hi = some h → t ≤ h) ↔ (∀ h, hi = some h → t ≤ h) ∧ 0 ≤ s * t + x := by
      unfold hiS
      rw [if_pos h, ← z]
      cases hi with
      | none => simp
      | some g =>
        simp
        split <;> omega
    rw [e1, e2]
    constructor
    · rintro ⟨a, b, c, d⟩
      exact ⟨by omega, a, ⟨b, c⟩, d⟩
    · rintro ⟨_, a, ⟨b, c⟩, d⟩
      exact ⟨a, b, c, d⟩
  · subst h
    have e1 : loS 0 x lo = lo := by unfold loS; rw [if_neg (by omega)]
    have e2 : hiS 0 x hi = hi := by unfold hiS; rw [if_neg (by omega)]
    rw [e1, e2, Int.zero_mul]
    constructor
    · rintro ⟨a, b, c, d⟩
      exact ⟨by omega, a, b, d⟩
    · rintro ⟨z, a, b, d⟩
      exact ⟨a, b, by omega, d⟩
  · have e2 : hiS s x hi = hi := by unfold hiS; rw [if_neg (by omega)]
    have z : 0 - x / s ≤ t ↔ 0 ≤ s * t + x := by
      have : -t ≤ x / s ↔ -t * s ≤ x := Int.le_ediv_iff_mul_le h
      have e : -t * s = - (s * t) := by rw [Int.neg_mul, Int.mul_comm]
      omega
    have e1 : loS s x lo ≤ t ↔ lo ≤ t ∧ 0 ≤ s * t + x := by
      unfold loS
      rw [if_pos h, ← z]
      split <;> omega
    rw [e1, e2]
    constructor
    · rintro ⟨a, b, c, d⟩
      exact ⟨by omega, ⟨a, c⟩, b, d⟩
    · rintro ⟨_, ⟨a, c⟩, b, d⟩
      exact ⟨a, b, c, d⟩
theorem spW_none : ∀ {ls : List (Int × Int)} {lo : Int} {hi : Option Int}, spW ls lo hi = none → ∀ t, ¬ Sat ls lo hi t
  | [], lo, hi, h, t => by
    rintro ⟨a, b, _⟩
    unfold spW at h
    split at h
    · cases h
    · rename_i z
      cases hi with
      | none => exact z rfl
      | some g =>
        have := b g rfl
        exact z (decide_eq_true (by omega))
  | (s, x) :: r, lo, hi, h, t => by
    rw [sat_cons]
    rintro ⟨a, b⟩
    unfold spW at h
    rw [if_neg a] at h
    exact spW_none h t b
theorem spW_some : ∀ {ls : List (Int × Int)} {lo : Int} {hi : Option Int} {l : Int} {g : Option Int}, spW ls lo hi = some (l, g) → Sat ls lo hi l ∧ okS l g = true
  | [], lo, hi, l, g, h => by
    unfold spW at h
    split at h
    · rename_i z
      cases h
      refine ⟨⟨Int.le_refl _, fun x hx => ?_, nofun⟩, z⟩
      subst hx
      exact of_decide_eq_true z
    · cases h
  | (s, x) :: r, lo, hi, l, g, h => by
    rw [sat_cons]
    unfold spW at h
    split at h
    · cases h
    · rename_i z
      obtain ⟨a, b⟩ := spW_some h
      exact ⟨⟨z, a⟩, b⟩
theorem spW_le {B : Int} (hB : 0 ≤ B) : ∀ {ls : List (Int × Int)} {lo : Int} {hi : Option Int} {l : Int} {g : Option Int}, spW ls lo hi = some (l, g) → (∀ p ∈ ls, 0 < p.1 → -B ≤ p.2) → lo ≤ B → l ≤ B
  | [], lo, hi, l, g, h, _, hl => by
    unfold spW at h
    split at h
    · cases h
      exact hl
    · cases h
  | (s, x) :: r, lo, hi, l, g, h, hp, hl => by
    unfold spW at h
    split at h
    · cases h
    · refine spW_le hB h (fun p hq => hp p (List.mem_cons_of_mem _ hq)) ?_
      unfold loS
      split
      · rename_i hs
        have h1 := hp (s, x) (List.mem_cons_self ..) hs
        have h1 : -B ≤ x := h1
        have : -B ≤ x / s := by
          rw [Int.le_ediv_iff_mul_le hs]
          have : B * 1 ≤ B * s := Int.mul_le_mul_of_nonneg_left (by omega) hB
          rw [Int.neg_mul]
          omega
        split <;> omega
      · exact hl
end My
namespace My
open PySem PySem.Spec PyProof.Rows L2 DL
def stF (F : Nat) (l : Ln) : Nat := if l.b = 0 then F else Nat.lcm F l.b.natAbs
def stepsN (L : List Ln) : Nat := L.foldl stF 1
theorem stF_pos {F : Nat} {l : Ln} (h : 0 < F) : 0 < stF F l := by
  unfold stF
  split
  · exact h
  · exact Nat.lcm_pos h (by omega)
theorem st_fold : ∀ {L : List Ln} {F : Nat}, 0 < F → 0 < L.foldl stF F ∧ F ∣ L.foldl stF F ∧ (∀ l ∈ L, l.b ≠ 0 → l.b.natAbs ∣ L.foldl stF F) ∧ ∀ N, F ∣ N → (∀ l ∈ L, l.b ≠ 0 → l.b.natAbs ∣ N) → L.foldl stF F ∣ N
  | [], F, h => ⟨h, Nat.dvd_refl _, nofun, fun N hN _ => hN⟩
  | l :: r, F, h => by
    obtain ⟨h1, h2, h3, h4⟩ := st_fold (L := r) (stF_pos (l := l) h)
    have d1 : F ∣ stF F l := by
      unfold stF
      split
      · exact Nat.dvd_refl _
      · exact Nat.dvd_lcm_left ..
    rw [List.foldl_cons]
    refine ⟨h1, Nat.dvd_trans d1 h2, fun m hm mb => ?_, fun N hN hl => ?_⟩
    · rcases List.mem_cons.mp hm with rfl | hm
      · refine Nat.dvd_trans ?_ h2
        unfold stF
        rw [if_neg mb]
        exact Nat.dvd_lcm_right ..
      · exact h3 m hm mb
    · refine h4 N ?_ fun m hm mb => hl m (List.mem_cons_of_mem _ hm) mb
      unfold stF
      split
      · exact hN
      · rename_i z
        exact Nat.lcm_dvd hN (hl l (List.mem_cons_self ..) z)
theorem st_pos {L : List Ln} : 0 < stepsN L := (st_fold (by decide)).1
theorem st_dvd {L : List Ln} {l : Ln} (hl : l ∈ L) (hb : l.b ≠ 0) : l.b ∣ (stepsN L : Int) := by
  have := (st_fold (L := L) (F := 1) (by decide)).2.2.1 l hl hb
  exact Int.natAbs_dvd.mp (Int.ofNat_dvd.mpr this)
theorem st_of {L : List Ln} {N : Nat} (h : ∀ l ∈ L, l.b ≠ 0 → l.b.natAbs ∣ N) : stepsN L ∣ N := (st_fold (L := L) (F := 1) (by decide)).2.2.2 N (Nat.one_dvd _) h
theorem lcm_int {F : Nat} {b : Int} : (F : Int) / (Int.gcd F b : Int) * (b.natAbs : Int) = (Nat.lcm F b.natAbs : Int) := by
  have e : Int.gcd (F : Int) b = Nat.gcd F b.natAbs := rfl
  rw [e, ← Int.natCast_ediv, ← Int.natCast_mul]
  congr 1
  unfold Nat.lcm
  rw [Nat.div_mul_right_comm (Nat.gcd_dvd_left ..)]
/-! how far ahead -/
theorem fl_lo {x D : Int} (h : 0 < D) : x - D + 1 ≤ D * (x / D) := by
  have a := Int.emod_add_mul_ediv x D
  have b := Int.emod_lt_of_pos x h
  omega
theorem byS_B {L : List Ln} {s r : Int} (hs : 0 < s) (hr : 0 ≤ r) (hd : ∀ l ∈ L, l.b ≠ 0 → l.b ∣ s) (hc : ∀ l ∈ L, -4 ≤ l.c) : ∀ p ∈ byS L s r, 0 < p.1 → -8 ≤ p.2 := by
  intro p hp h0
  rcases List.mem_append.mp hp with q | q
  · obtain ⟨l, hl, rfl⟩ := List.mem_map.mp q
    obtain ⟨hl, hb⟩ := List.mem_filter.mp hl
    have h0 : 0 < l.a * s := h0
    have := hc l hl
    have la : 0 ≤ l.a := by
      rcases Int.lt_or_le l.a 0 with z | z
      · have := Int.mul_neg_of_neg_of_pos z hs
        omega
      · exact z
    have := Int.mul_nonneg la hr
    show -8 ≤ l.w r
    unfold Ln.w
    omega
  · obtain ⟨ps, hps, hp⟩ := List.mem_flatten.mp q
    obtain ⟨x, hx, rfl⟩ := List.mem_map.mp hps
    obtain ⟨y, hy, rfl⟩ := List.mem_map.mp hp
    obtain ⟨l, hl, rfl⟩ := List.mem_map.mp hx
    obtain ⟨m, hm, rfl⟩ := List.mem_map.mp hy
    obtain ⟨hl, lb⟩ := List.mem_filter.mp hl
    obtain ⟨hm, mb⟩ := List.mem_filter.mp hm
    have lb := of_decide_eq_true lb
    have mb := of_decide_eq_true mb
    obtain ⟨q1, e1⟩ := hd l hl (by omega)
    obtain ⟨q2, e2⟩ := hd m hm (by omega)
    have e1' : s = (0 - l.b) * (-q1) := by rw [e1, Int.zero_sub, Int.neg_mul_neg]
    have z1 : s / (0 - l.b) = -q1 := by rw [e1', Int.mul_ediv_cancel_left _ (by omega)]
    have z2 : s / m.b = q2 := by rw [e2, Int.mul_ediv_cancel_left _ (by omega)]
    have h0 : 0 < l.a * (s / (0 - l.b)) - (0 - m.a * (s / m.b)) := h0
    show -8 ≤ l.w r / (0 - l.b) - (0 - m.w r / m.b)
    rw [z1, z2] at h0
    have f1 := fl_lo (x := l.w r) (D := 0 - l.b) (by omega)
    have f2 := fl_lo (x := m.w r) (D := m.b) mb
    generalize hq : -q1 = p1 at *
    have D1 : 0 < 0 - l.b := by omega
    generalize 0 - l.b = D at *
    generalize l.w r / D = g1 at *
    generalize m.w r / m.b = g2 at *
    have p1p : 0 < p1 := by
      rcases Int.lt_or_le 0 p1 with z | z
      · exact z
      · have := Int.mul_nonpos_of_nonneg_of_nonpos (Int.le_of_lt D1) z
        omega
    have q2p : 0 < q2 := by
      rcases Int.lt_or_le 0 q2 with z | z
      · exact z
      · have := Int.mul_nonpos_of_nonneg_of_nonpos (Int.le_of_lt mb) z
        omega
    have p1s : p1 ≤ s := by
      rw [e1']
      have := Int.mul_le_mul_of_nonneg_right (show 1 ≤ D by omega) (Int.le_of_lt p1p)
      omega
    have q2s : q2 ≤ s := by
      rw [e2]
      have := Int.mul_le_mul_of_nonneg_right (show 1 ≤ m.b by omega) (Int.le_of_lt q2p)
      omega
    have t1 : p1 * (l.w r - D + 1) ≤ p1 * (D * g1) := Int.mul_le_mul_of_nonneg_left f1 (Int.le_of_lt p1p)
    have t2 : q2 * (m.w r - m.b + 1) ≤ q2 * (m.b * g2) := Int.mul_le_mul_of_nonneg_left f2 (Int.le_of_lt q2p)
    have u1 : p1 * (D * g1) = s * g1 := by rw [e1']; ac_rfl
    have u2 : q2 * (m.b * g2) = s * g2 := by rw [e2]; ac_rfl
    have v1 : p1 * (l.w r - D + 1) = p1 * l.w r - s + p1 := by
      rw [Int.mul_add, Int.mul_sub, e1', Int.mul_one, Int.mul_comm D p1]
    have v2 : q2 * (m.w r - m.b + 1) = q2 * m.w r - s + q2 := by
      rw [Int.mul_add, Int.mul_sub, e2, Int.mul_one, Int.mul_comm m.b q2]
    have w1 : p1 * l.w r = l.a * p1 * r + p1 * l.c := by
      unfold Ln.w
      rw [Int.mul_add]
      have : p1 * (l.a * r) = l.a * p1 * r := by ac_rfl
      omega
    have w2 : q2 * m.w r = m.a * q2 * r + q2 * m.c := by
      unfold Ln.w
      rw [Int.mul_add]
      have : q2 * (m.a * r) = m.a * q2 * r := by ac_rfl
      omega
    have c1 : p1 * (-4) ≤ p1 * l.c := Int.mul_le_mul_of_nonneg_left (hc l hl) (Int.le_of_lt p1p)
    have c2 : q2 * (-4) ≤ q2 * m.c := Int.mul_le_mul_of_nonneg_left (hc m hm) (Int.le_of_lt q2p)
    have sl : 0 ≤ (l.a * p1 + m.a * q2) * r := Int.mul_nonneg (by omega) hr
    rw [Int.add_mul] at sl
    have big : s * (-8) ≤ s * (g1 + g2) := by
      rw [Int.mul_add]
      omega
    have : -8 ≤ g1 + g2 := Int.le_of_mul_le_mul_left big hs
    omega
/-! all counts -/
theorem sat0 {ls : List (Int × Int)} {t : Int} : Sat ls 0 none t ↔ 0 ≤ t ∧ ∀ p ∈ ls, 0 ≤ p.1 * t + p.2 := by
  unfold Sat
  simp
def spn (L : List Ln) (r : Nat) : Option (Int × Option Int) := spW (byS L (stepsN L) r) 0 none
theorem all_none {L : List Ln} (h : ∀ r : Nat, r < stepsN L → spn L r = none) {n : Int} (hn : 0 ≤ n) : ¬ Feas L n := by
  intro hf
  have sp := st_pos (L := L)
  have e := Int.emod_add_mul_ediv n (stepsN L)
  have r0 := Int.emod_nonneg n (b := (stepsN L : Int)) (by omega)
  have r1 := Int.emod_lt_of_pos n (b := (stepsN L : Int)) (by omega)
  have t0 : 0 ≤ n / (stepsN L : Int) := Int.ediv_nonneg hn (by omega)
  obtain ⟨r, hr⟩ := Int.eq_ofNat_of_zero_le r0
  have e2 : n = n / (stepsN L : Int) * stepsN L + r := by
    rw [Int.mul_comm]
    omega
  have hz := h r (by omega)
  refine spW_none hz (n / (stepsN L : Int)) (sat0.mpr ⟨t0, ?_⟩)
  rw [e2] at hf
  have hf' := (byS_feas (t := n / (stepsN L : Int)) (r := (r : Int)) fun l hl hb => st_dvd hl hb).mp (by rw [e2] at hf ⊢; rw [← e2] at hf ⊢; exact hf)
  exact hf'
theorem one_some {L : List Ln} {r : Nat} {l : Int} {g : Option Int} (h : spn L r = some (l, g)) : 0 ≤ l ∧ Feas L (l * stepsN L + r) := by
  obtain ⟨a, _⟩ := spW_some h
  obtain ⟨h0, h1⟩ := sat0.mp a
  exact ⟨h0, (byS_feas fun l hl hb => st_dvd hl hb).mpr h1⟩
theorem one_near {L : List Ln} {r : Nat} {l : Int} {g : Option Int} (h : spn L r = some (l, g)) (hc : ∀ l ∈ L, -4 ≤ l.c) : l ≤ 8 :=
  spW_le (by decide) h (byS_B (by have := st_pos (L := L); omega) (by omega) (fun l hl hb => st_dvd hl hb) hc) (by decide)
end My
namespace My
open PySem PySem.Spec PyProof.Rows L2 DL
structure LOk (L : List Ln) : Prop where
  n : L.length ≤ 20
  l : ∀ l ∈ L, l.a.natAbs ≤ 100 ∧ l.b.natAbs ≤ 100 ∧ l.c.natAbs ≤ 100 ∧ (l.b ≠ 0 → l.b.natAbs ∣ 30)
theorem LOk.take {L : List Ln} (h : LOk L) (i : Nat) : LOk (L.take i) := ⟨by have := h.n; rw [List.length_take]; omega, fun l hl => h.l l (List.mem_of_mem_take hl)⟩
theorem LOk.st {L : List Ln} (h : LOk L) : stepsN L ≤ 30 := Nat.le_of_dvd (by decide) (st_of fun l hl hb => (h.l l hl).2.2.2 hb)
theorem take_fold {L : List Ln} {i : Nat} {l : Ln} (h : L[i]? = some l) : stepsN (L.take (i + 1)) = stF (stepsN (L.take i)) l := by
  unfold stepsN
  rw [List.take_add_one, h]
  simp
theorem dvi {i j : Int} (h : j ≠ 0) (hj : j.natAbs < 2 ^ 30) : CDv i j := ⟨h, by
  have := log2_le hj
  omega⟩
theorem gcd_pos' {a b : Int} (h : 0 < a) : 0 < (Int.gcd a b : Int) := by
  have := Int.gcd_pos_of_ne_zero_left b (show a ≠ 0 by omega)
  omega
theorem gcd_le' {a b : Int} (h : 0 < a) : (Int.gcd a b : Int) ≤ a := Int.le_of_dvd h (Int.gcd_dvd_left ..)
theorem steps_eq {L : List Ln} {cs : Cs} (h : LOk L) : m_steps_of [.dat (.list (L.map Ln.d))] cs = some (.dat (.int (stepsN L)), cs) := by
  refine em_eq ?_
  unfold m_steps_of
  rw [em_fnM]
  unfold b_steps_of
  simp
  refine el_inv (k := 0) (fun i ρ cs' => cs' = cs ∧ ∃ v2 v3 v4, ρ = [some (.dat (.list (L.map Ln.d))), some (.dat (.int (stepsN (L.take i)))), v2, v3, v4]) ⟨rfl, none, none, none, rfl⟩ ?_ ?_
  · rintro i d ρ cs' hd ⟨rfl, v2, v3, v4, rfl⟩
    rw [Nat.zero_add] at *
    rw [List.getElem?_map] at hd
    obtain ⟨l, hl, rfl⟩ := Option.map_eq_some_iff.mp hd
    obtain ⟨la, lb, lc, _⟩ := h.l l (List.mem_of_getElem? hl)
    have sp := st_pos (L := L.take i)
    have sl := (h.take i).st
    have t1 := take_fold hl
    have t2 := (h.take (i + 1)).st
    rw [t1] at t2
    rw [t1]
    unfold Ln.d stF at *
    generalize stepsN (L.take i) = F at *
    by_cases hb : l.b = 0
    · simp [hb, fdNe_int]
    · rw [if_neg hb] at t2
      have g1 := gcd_pos' (a := (F : Int)) (b := l.b) (by omega)
      have g2 := gcd_le' (a := (F : Int)) (b := l.b) (by omega)
      have e := lcm_int (F := F) (b := l.b)
      have q0 : 0 ≤ (F : Int) / (Int.gcd F l.b : Int) := Int.ediv_nonneg (by omega) (by omega)
      have q1 : (F : Int) / (Int.gcd F l.b : Int) ≤ F := Int.ediv_le_self _ (by omega)
      simp [hb, fdNe_int]
      refine em_of common_eq ?_
      simp [dDiv_int (dvi (i := (F : Int)) (j := (Int.gcd F l.b : Int)) (by omega) (by omega)), fdiv_pos g1, dAbs_int]
      generalize (Int.gcd F l.b : Int) = G at *
      rw [dMul_int (cml 30 30 (by omega) (by omega)), e]
      simp
  · rintro ρ cs' ⟨rfl, v2, v3, v4, rfl⟩
    have e : L.take (0 + (L.map Ln.d).length) = L := by rw [List.length_map, Nat.zero_add]; exact List.take_length
    rw [e]
    simp
def prD (p : Int × Int) : D := .tuple [.int p.1, .int p.2]
def opD : Option Int → D
  | none => .none
  | some h => .int h
def spD : Option (Int × Option Int) → D
  | none => .none
  | some (l, g) => .tuple [.int l, opD g]
theorem dLe_int {i j : Int} : dLe (.int i) (.int j) = some (db (decide (i ≤ j))) := rfl
theorem dIsI {g : Int} : dIs id (.int g) .none = some (db false) := rfl
theorem opD_none {g : Option Int} : dIs id (opD g) .none = some (db g.isNone) := by cases g <;> rfl
theorem spW_cons {s x : Int} {r : List (Int × Int)} {lo : Int} {hi : Option Int} : spW ((s, x) :: r) lo hi = if s = 0 ∧ x < 0 then none else spW r (loS s x lo) (hiS s x hi) := by rw [spW]
theorem spW_nil {lo : Int} {hi : Option Int} : spW [] lo hi = if okS lo hi = true then some (lo, hi) else none := by rw [spW]
theorem span_eq {ps : List (Int × Int)} {cs : Cs} (h : ∀ p ∈ ps, p.1.natAbs < 2 ^ 30 ∧ p.2.natAbs < 2 ^ 30) : m_span_where [.dat (.list (ps.map prD))] cs = some (.dat (spD (spW ps 0 none)), cs) := by
  refine em_eq ?_
  unfold m_span_where
  rw [em_fnM]
  unfold b_span_where
  have two : 2 ≤ sizeLine := two_fit
  simp [two]
  refine el_inv (k := 0) (fun i ρ cs' => cs' = cs ∧ ∃ lo hi v3 v4 v5, ρ = [some (.dat (.list (ps.map prD))), some (.dat (.int lo)), some (.dat (opD hi)), v3, v4, v5] ∧ spW ps 0 none = spW (ps.drop i) lo hi) ⟨rfl, 0, none, none, none, none, rfl, by rw [List.drop_zero]⟩ ?_ ?_
  · rintro i d ρ cs' hd ⟨rfl, lo, hi, v3, v4, v5, rfl, hsp⟩
    rw [Nat.zero_add] at *
    rw [List.getElem?_map] at hd
    obtain ⟨⟨s, x⟩, hp, rfl⟩ := Option.map_eq_some_iff.mp hd
    obtain ⟨b1, b2⟩ := h (s, x) (List.mem_of_getElem? hp)
    have b1 : s.natAbs < 2 ^ 30 := b1
    have ed : ps.drop i = (s, x) :: ps.drop (i + 1) := by
      have hi := (List.getElem?_eq_some_iff.mp hp)
      obtain ⟨hi, e⟩ := hi
      rw [List.drop_eq_getElem_cons hi, e]
    rw [ed, spW_cons] at hsp
    unfold prD
    simp [fdEq_int, dLt_int, dGt_int]
    rcases Int.lt_trichotomy s 0 with hs | hs | hs
    · have n1 : ¬ s = 0 := by omega
      have n2 : ¬ 0 < s := by omega
      have c1 : CDv x (0 - s) := dvi (by omega) (by omega)
      rw [if_neg (by omega)] at hsp
      have e1 : loS s x lo = lo := by unfold loS; rw [if_neg (by omega)]
      rw [e1] at hsp
      have ee := dDiv_int c1
      rw [fdiv_pos (show 0 < 0 - s by omega)] at ee
      simp [n1, n2, hs, dSub_int]
      rw [Int.zero_sub, Int.ediv_neg] at ee
      rw [ee]
      simp [opD_none]
      cases hi with
      | none =>
        simp
        refine ⟨lo, some (-(x / s)), ⟨rfl, rfl⟩, ?_⟩
        unfold hiS at hsp
        rw [if_pos hs, Int.zero_sub, Int.ediv_neg] at hsp
        exact hsp
      | some g =>
        simp [opD, dMin2]
        refine ⟨lo, some (if -(x / s) < g then -(x / s) else g), ⟨rfl, rfl⟩, ?_⟩
        unfold hiS at hsp
        rw [if_pos hs, Int.zero_sub, Int.ediv_neg] at hsp
        exact hsp
    · subst hs
      by_cases hx : x < 0
      · rw [if_pos ⟨rfl, hx⟩] at hsp
        simp [hx, hsp, spD]
      · rw [if_neg (by omega)] at hsp
        simp [hx]
        refine ⟨lo, hi, ⟨rfl, rfl⟩, ?_⟩
        have e1 : loS 0 x lo = lo := by unfold loS; rw [if_neg (by omega)]
        have e2 : hiS 0 x hi = hi := by unfold hiS; rw [if_neg (by omega)]
        rw [e1, e2] at hsp
        exact hsp
    · have n1 : ¬ s = 0 := by omega
      have n2 : ¬ s < 0 := by omega
      have c1 : CDv x s := dvi (by omega) (by omega)
      have ee := dDiv_int c1
      rw [fdiv_pos hs] at ee
      rw [if_neg (by omega)] at hsp
      have e2 : hiS s x hi = hi := by unfold hiS; rw [if_neg (by omega)]
      rw [e2] at hsp
      simp [n1, n2, hs, ee, dSub_int, dMax2]
      refine ⟨_, hi, ⟨rfl, rfl⟩, ?_⟩
      unfold loS at hsp
      rw [if_pos hs, Int.zero_sub] at hsp
      exact hsp
  · rintro ρ cs' ⟨rfl, lo, hi, v3, v4, v5, rfl, hsp⟩
    have e : ps.drop (0 + (ps.map prD).length) = [] := by rw [List.length_map, Nat.zero_add]; exact List.drop_length
    rw [e, spW_nil] at hsp
    rw [hsp]
    cases hi with
    | none => simp [opD_none, okS, spD, two]
    | some g =>
      by_cases hg : lo ≤ g
      · simp [dIsI, okS, spD, two, opD, dLe_int, hg]
      · simp [dIsI, okS, spD, two, opD, dLe_int, hg]
end My
namespace My
open PySem PySem.Spec PyProof.Rows L2 DL
theorem es_frz {i k : Nat} {f : MS} {ρ : Rho} {cs : Cs} {QS : Out → Prop} {n0 : Nat} {c : List D} (h1 : ρ[i]? = some (some (.own k))) (h2 : cs[k]? = some (some c)) (h3 : n0 ≤ k)
    (h : Es f n0 ((ρ.map fun r => match r with
        | some (.own j) => if j = k then none else some (.own j)
        | r => r).set i (some (.dat (.list c)))) (cs.set k none) QS) : Es (sFrz i f) n0 ρ cs QS := by
  unfold Es sFrz
  rw [h1]
  simp only [h3, if_true, h2]
  exact h
section
variable {L : List Ln} {s r : Int} {i : Nat} {l : Ln}
theorem zs_take (h : L[i]? = some l) : zsL (L.take (i + 1)) s r = zsL (L.take i) s r ++ if l.b = 0 then [(l.a * s, l.w r)] else [] := by
  unfold zsL
  rw [List.take_add_one, h]
  by_cases hb : l.b = 0 <;> simp [hb]
theorem ls_take (h : L[i]? = some l) : lsL (L.take (i + 1)) s r = lsL (L.take i) s r ++ if 0 < l.b then [(0 - l.a * (s / l.b), 0 - l.w r / l.b)] else [] := by
  unfold lsL
  rw [List.take_add_one, h]
  by_cases hb : 0 < l.b <;> simp [hb]
theorem ms_take (h : L[i]? = some l) : msL (L.take (i + 1)) s r = msL (L.take i) s r ++ if l.b < 0 then [(l.a * (s / (0 - l.b)), l.w r / (0 - l.b))] else [] := by
  unfold msL
  rw [List.take_add_one, h]
  by_cases hb : l.b < 0 <;> simp [hb]
theorem zs_len : (zsL L s r).length ≤ L.length := by unfold zsL; rw [List.length_map]; exact List.length_filter_le ..
theorem ls_len : (lsL L s r).length ≤ L.length := by unfold lsL; rw [List.length_map]; exact List.length_filter_le ..
theorem ms_len : (msL L s r).length ≤ L.length := by unfold msL; rw [List.length_map]; exact List.length_filter_le ..
end
def prsD (ps : List (Int × Int)) : List D := ps.map prD
theorem prs_app {a b : List (Int × Int)} : prsD (a ++ b) = prsD a ++ prsD b := List.map_append
theorem by_eq {L : List Ln} {s r : Int} {cs : Cs} (h : LOk L) (s0 : 0 ≤ s) (s1 : s ≤ 30) (r0 : 0 ≤ r) (r1 : r ≤ 30) : m_by_steps [.dat (.list (L.map Ln.d)), .dat (.int s), .dat (.int r)] cs = some (.fr (prsD (byS L s r)), cs) := by
  refine em_eq ?_
  unfold m_by_steps
  rw [em_fnM]
  unfold b_by_steps
  have two : 2 ≤ sizeLine := two_fit
  have hn := h.n
  simp
  refine el_inv (k := 0) (fun i ρ cs' => cs' = cs ++ [some (prsD (zsL (L.take i) s r)), some (prsD (lsL (L.take i) s r)), some (prsD (msL (L.take i) s r))] ∧ ∃ v6 v7 v8 v9 v10 v11 v12, ρ = [some (.dat (.list (L.map Ln.d))), some (.dat (.int s)), some (.dat (.int r)), some (.own cs.length), some (.own (cs.length + 1)), some (.own (cs.length + 2)), v6, v7, v8, v9, v10, v11, v12]) ?_ ?_ ?_
  · exact ⟨rfl, _, _, _, _, _, _, _, rfl⟩
  · rintro i d ρ cs' hd ⟨rfl, v6, v7, v8, v9, v10, v11, v12, rfl⟩
    rw [Nat.zero_add] at *
    rw [List.getElem?_map] at hd
    obtain ⟨l, hl, rfl⟩ := Option.map_eq_some_iff.mp hd
    obtain ⟨la, lb, lc, _⟩ := h.l l (List.mem_of_getElem? hl)
    have lt : (L.take i).length ≤ 20 := by rw [List.length_take]; omega
    have z1 : (zsL (L.take i) s r).length < sizeLine := Nat.lt_of_lt_of_le (show _ < 21 by have := zs_len (L := L.take i) (s := s) (r := r); omega) (le_size (by decide))
    have z2 : (lsL (L.take i) s r).length < sizeLine := Nat.lt_of_lt_of_le (show _ < 21 by have := ls_len (L := L.take i) (s := s) (r := r); omega) (le_size (by decide))
    have z3 : (msL (L.take i) s r).length < sizeLine := Nat.lt_of_lt_of_le (show _ < 21 by have := ms_len (L := L.take i) (s := s) (r := r); omega) (le_size (by decide))
    have m1 : CMl l.a r := cml 10 10 (by omega) (by omega)
    rw [zs_take hl, ls_take hl, ms_take hl, prs_app, prs_app, prs_app]
    unfold Ln.w Ln.d
    rcases Int.lt_trichotomy l.b 0 with hb | hb | hb
    · have n1 : ¬ l.b = 0 := by omega
      have n2 : ¬ 0 < l.b := by omega
      have p : 0 < 0 - l.b := by omega
      have q0 : 0 ≤ s / (0 - l.b) := Int.ediv_nonneg s0 (by omega)
      have q1 : s / (0 - l.b) ≤ s := Int.ediv_le_self _ s0
      have d1 := dDiv_int (dvi (i := s) (j := 0 - l.b) (by omega) (by omega))
      have d2 := dDiv_int (dvi (i := l.a * r + l.c) (j := 0 - l.b) (by omega) (by omega))
      rw [fdiv_pos p] at d1 d2
      have m2 : CMl l.a (s / (0 - l.b)) := cml 10 10 (by omega) (by omega)
      have dm := dMul_int m2
      generalize s / (0 - l.b) = q at *
      generalize (l.a * r + l.c) / (0 - l.b) = g at *
      simp [hb, n1, n2, fdEq_int, dGt_int, dMul_int m1, dAdd_int, dSub_int, two]
      rw [Int.zero_sub] at d1 d2
      simp [d1, d2, dm, two, z3, prsD, prD]
    · simp [hb, fdEq_int, dMul_int m1, dAdd_int, dMul_int (cml (i := l.a) (j := s) 10 10 (by omega) (by omega)), two, z1, prsD, prD]
    · have n1 : ¬ l.b = 0 := by omega
      have n2 : ¬ l.b < 0 := by omega
      have q0 : 0 ≤ s / l.b := Int.ediv_nonneg s0 (by omega)
      have q1 : s / l.b ≤ s := Int.ediv_le_self _ s0
      have d1 := dDiv_int (dvi (i := s) (j := l.b) (by omega) (by omega))
      have d2 := dDiv_int (dvi (i := l.a * r + l.c) (j := l.b) (by omega) (by omega))
      rw [fdiv_pos hb] at d1 d2
      have m2 : CMl l.a (s / l.b) := cml 10 10 (by omega) (by omega)
      have dm := dMul_int m2
      simp [hb, n1, n2, fdEq_int, dGt_int, dMul_int m1, dAdd_int, dSub_int, two, d1, d2, dm, z2, prsD, prD]
  · rintro ρ cs' ⟨rfl, v6, v7, v8, v9, v10, v11, v12, rfl⟩
    have e : L.take (0 + (L.map Ln.d).length) = L := by rw [List.length_map, Nat.zero_add]; exact List.take_length
    rw [e]
    simp
    have l1 := zs_len (L := L) (s := s) (r := r)
    have l2 := ls_len (L := L) (s := s) (r := r)
    have l3 := ms_len (L := L) (s := s) (r := r)
    have eb : byS L s r = zsL L s r ++ ((msL L s r).map fun m => (lsL L s r).map fun l => (m.1 - l.1, m.2 - l.2)).flatten := rfl
    rw [eb]
    generalize zsL L s r = A at *
    generalize lsL L s r = B at *
    generalize msL L s r = C at *
    refine es_frz (k := cs.length + 2) (c := prsD C) rfl (by simp) (by omega) ?_
    simp
    refine es_frz (k := cs.length + 1) (c := prsD B) rfl (by simp) (by omega) ?_
    simp
    have hB : ∀ C' : List (Int × Int), C'.length ≤ 20 → ((C'.map fun m => B.map fun l => (m.1 - l.1, m.2 - l.2)).flatten).length ≤ 20 * C'.length := fun C' _ => by
      induction C' with
      | nil => simp
      | cons x r ih =>
        have ih := ih (by simp at *; omega)
        rw [List.map_cons, List.flatten_cons, List.length_append, List.length_map, List.length_cons]
        omega
    refine el_inv (k := 0) (fun i ρ cs' => ∃ j v6 v7 v8 v9 v10 v11 v12, cs.length ≤ j ∧ cs'[j]? = some (some (prsD (A ++ ((C.take i).map fun m => B.map fun l => (m.1 - l.1, m.2 - l.2)).flatten))) ∧ cs'.take cs.length = cs ∧ ρ = [some (.dat (.list (L.map Ln.d))), some (.dat (.int s)), some (.dat (.int r)), some (.own j), some (.dat (.list (prsD B))), some (.dat (.list (prsD C))), v6, v7, v8, v9, v10, v11, v12]) ?_ ?_ ?_
    · refine ⟨cs.length, _, _, _, _, _, _, _, Nat.le_refl _, ?_, ?_, rfl⟩
      · simp
      · simp
    · rintro i d ρ cs' hd ⟨j, v6, v7, v8, v9, v10, v11, v12, hj, hcj, htk, rfl⟩
      rw [Nat.zero_add] at *
      unfold prsD at hd
      rw [List.getElem?_map] at hd
      obtain ⟨m, hm, rfl⟩ := Option.map_eq_some_iff.mp hd
      have hi : i < C.length := (List.getElem?_eq_some_iff.mp hm).1
      have hjl : j < cs'.length := (List.getElem?_eq_some_iff.mp hcj).1
      have len := hB (C.take i) (by rw [List.length_take]; omega)
      rw [List.length_take, Nat.min_eq_left (Nat.le_of_lt hi)] at len
      have et : ((C.take (i + 1)).map fun m => B.map fun l => (m.1 - l.1, m.2 - l.2)).flatten = ((C.take i).map fun m => B.map fun l => (m.1 - l.1, m.2 - l.2)).flatten ++ B.map fun l => (m.1 - l.1, m.2 - l.2) := by
        rw [List.take_add_one, hm]
        simp
      rw [et]
      generalize ((C.take i).map fun m => B.map fun l => (m.1 - l.1, m.2 - l.2)).flatten = T at *
      have zB : 0 + (prsD B).length ≤ sizeLine := le_size (by unfold prsD; rw [List.length_map]; omega)
      unfold prD
      simp
      refine ec_pure (fun _ => true) (fun x => match x with | .tuple [.int a, .int b] => .tuple [.int (m.1 - a), .int (m.2 - b)] | _ => .none) (fun x hx cs2 => ?_) zB ?_
      · obtain ⟨p, hp, rfl⟩ := List.mem_map.mp hx
        unfold prD
        simp [wipeR, dSub_int, two]
      · rw [List.nil_append, List.filter_eq_self.mpr (fun _ _ => rfl)]
        have em : (prsD B).map (fun x => match x with | .tuple [.int a, .int b] => PyData.tuple [.int (m.1 - a), .int (m.2 - b)] | _ => .none) = prsD (B.map fun l => (m.1 - l.1, m.2 - l.2)) := by
          unfold prsD
          rw [List.map_map, List.map_map]
          rfl
        rw [em]
        unfold O2
        rw [rd1_own hcj]
        have zz : (prsD (A ++ T)).length + (prsD (B.map fun l => (m.1 - l.1, m.2 - l.2))).length ≤ sizeLine := le_size (by
          unfold prsD
          rw [List.length_map, List.length_map, List.length_append, List.length_map]
          omega)
        simp [dAdd_list, zz]
        refine ⟨cs'.length, by omega, ?_, ?_, rfl⟩
        · simp [prsD]
        · rw [List.take_append_of_le_length (by omega)]
          exact htk
    · rintro ρ cs' ⟨j, v6, v7, v8, v9, v10, v11, v12, hj, hcj, htk, rfl⟩
      have e : C.take (0 + (prsD C).length) = C := by
        unfold prsD
        rw [List.length_map, Nat.zero_add]
        exact List.take_length
      rw [e] at hcj
      simp [hj, hcj, htk]
end My
namespace My
open PySem PySem.Spec PyProof.Rows L2 DL
theorem em_exi {m : MF} {rs : List Rv} {cs : Cs} {P : Rv → Prop} (h : Em m rs cs fun z c => P z ∧ c = cs) : ∃ z, m rs cs = some (z, cs) ∧ P z := by
  obtain ⟨z, c, e, h1, rfl⟩ := wpo_iff.mp h
  exact ⟨z, e, h1⟩
theorem div_ab {x D : Int} (h : 0 < D) : (x / D).natAbs ≤ x.natAbs := by
  have h1 : x / D ≤ x.natAbs := by
    have : x / D ≤ (x.natAbs : Int) / D := Int.ediv_le_ediv h (by omega)
    have := Int.ediv_le_self (a := (x.natAbs : Int)) D (by omega)
    omega
  have h2 : -(x.natAbs : Int) ≤ x / D := by
    rw [Int.le_ediv_iff_mul_le h]
    have : (x.natAbs : Int) * 1 ≤ (x.natAbs : Int) * D := Int.mul_le_mul_of_nonneg_left (by omega) (by omega)
    rw [Int.neg_mul]
    omega
  omega
theorem w_ab {l : Ln} {r : Int} (ha : l.a.natAbs ≤ 100) (hc : l.c.natAbs ≤ 100) (hr : r.natAbs ≤ 1000) : (l.w r).natAbs ≤ 100100 := by
  have := mul_nat ha hr
  unfold Ln.w
  generalize l.a * r = x at this
  omega
theorem by_small {L : List Ln} {s r : Int} (h : LOk L) (s0 : 0 ≤ s) (s1 : s ≤ 30) (r0 : 0 ≤ r) (r1 : r ≤ 30) : ∀ p ∈ byS L s r, p.1.natAbs < 2 ^ 30 ∧ p.2.natAbs < 2 ^ 30 := by
  have key : ∀ l ∈ L, ∀ D : Int, 0 < D → (l.a * (s / D)).natAbs ≤ 3000 := fun l hl D hD => by
    obtain ⟨la, lb, lc, _⟩ := h.l l hl
    have := mul_nat la (show (s / D).natAbs ≤ 30 by
      have := div_ab (x := s) hD
      omega)
    exact this
  have kw : ∀ l ∈ L, (l.w r).natAbs ≤ 100100 := fun l hl => by
    obtain ⟨la, lb, lc, _⟩ := h.l l hl
    exact w_ab la lc (by omega)
  intro p hp
  rcases List.mem_append.mp hp with q | q
  · obtain ⟨l, hl, rfl⟩ := List.mem_map.mp q
    obtain ⟨hl, hb⟩ := List.mem_filter.mp hl
    have a := mul_nat (h.l l hl).1 (show s.natAbs ≤ 30 by omega)
    have b := kw l hl
    exact ⟨by show (l.a * s).natAbs < _; omega, by show (l.w r).natAbs < _; omega⟩
  · obtain ⟨ps, hps, hp⟩ := List.mem_flatten.mp q
    obtain ⟨x, hx, rfl⟩ := List.mem_map.mp hps
    obtain ⟨y, hy, rfl⟩ := List.mem_map.mp hp
    obtain ⟨l, hl, rfl⟩ := List.mem_map.mp hx
    obtain ⟨m, hm, rfl⟩ := List.mem_map.mp hy
    obtain ⟨hl, lb⟩ := List.mem_filter.mp hl
    obtain ⟨hm, mb⟩ := List.mem_filter.mp hm
    have lb := of_decide_eq_true lb
    have mb := of_decide_eq_true mb
    have a := key l hl (0 - l.b) (by omega)
    have b := key m hm m.b mb
    have c := div_ab (x := l.w r) (show 0 < 0 - l.b by omega)
    have d := div_ab (x := m.w r) mb
    have e := kw l hl
    have f := kw m hm
    exact ⟨by show (l.a * (s / (0 - l.b)) - (0 - m.a * (s / m.b))).natAbs < _; omega, by show (l.w r / (0 - l.b) - (0 - m.w r / m.b)).natAbs < _; omega⟩
theorem spW_hi : ∀ {ls : List (Int × Int)} {lo : Int} {hi : Option Int} {l : Int} {g : Option Int}, spW ls lo hi = some (l, g) → (∀ p ∈ ls, p.2.natAbs < 2 ^ 30) → (∀ h, hi = some h → h.natAbs < 2 ^ 30) → ∀ h, g = some h → h.natAbs < 2 ^ 30
  | [], lo, hi, l, g, h, _, hh => by
    rw [spW_nil] at h
    split at h
    · cases h
      exact hh
    · cases h
  | (s, x) :: r, lo, hi, l, g, h, hp, hh => by
    rw [spW_cons] at h
    split at h
    · cases h
    · refine spW_hi h (fun p hq => hp p (List.mem_cons_of_mem _ hq)) ?_
      unfold hiS
      split
      · rename_i hs
        have h1 : x.natAbs < 2 ^ 30 := hp (s, x) (List.mem_cons_self ..)
        have h2 := div_ab (x := x) (show 0 < 0 - s by omega)
        intro y hy
        cases hi with
        | none =>
          simp only [Option.some.injEq] at hy
          omega
        | some z =>
          have := hh z rfl
          simp only [Option.some.injEq] at hy
          split at hy <;> omega
      · exact hh
theorem ix_t2 {a b : D} : dIx (.tuple [a, b]) (.int 1) = some (.dat b) := rfl
theorem isN_sp {o : Option (Int × Option Int)} : dIs not (spD o) .none = some (db o.isSome) := by
  cases o with
  | none => rfl
  | some p => rfl
theorem last_eq {L : List Ln} {cs : Cs} (h : LOk L) : ∃ z, m_last_without [.dat (.list (L.map Ln.d))] cs = some (.dat z, cs) ∧ (z = .int (-1) ∧ (∀ r < stepsN L, spn L r = none) ∨ ((z = .none ∨ ∃ v : Int, 0 ≤ v ∧ z = .int v) ∧ ∃ r, r < stepsN L ∧ ∃ l g, spn L r = some (l, g))) := by
  suffices q : ∃ z, m_last_without [.dat (.list (L.map Ln.d))] cs = some (z, cs) ∧ ∃ z', z = .dat z' ∧ (z' = .int (-1) ∧ (∀ r < stepsN L, spn L r = none) ∨ ((z' = .none ∨ ∃ v : Int, 0 ≤ v ∧ z' = .int v) ∧ ∃ r, r < stepsN L ∧ ∃ l g, spn L r = some (l, g))) by
    obtain ⟨z, e, z', rfl, hz⟩ := q
    exact ⟨z', e, hz⟩
  refine em_exi ?_
  unfold m_last_without
  rw [em_fnM]
  unfold b_last_without
  have st := h.st
  have sp := st_pos (L := L)
  simp
  refine em_of (steps_eq h) ?_
  simp [dNeg_int]
  refine ⟨sm_of (by omega), ?_⟩
  refine el_inv (k := 0) (fun i ρ cs' => i ≤ stepsN L ∧ cs' = cs ∧ ∃ v1 v4 found, ρ = [some (.dat (.list (L.map Ln.d))), v1, some (.dat (.int (stepsN L))), some (.dat (.int found)), v4] ∧ (found = -1 ∧ (∀ r < i, spn L r = none) ∨ 0 ≤ found ∧ ∃ r, r < stepsN L ∧ ∃ l g, spn L r = some (l, g))) ⟨by omega, rfl, none, none, -1, rfl, .inl ⟨rfl, by simp⟩⟩ ?_ ?_
  · rintro i d ρ cs' hd ⟨hi, rfl, v1, v4, found, rfl, hf⟩
    rw [Nat.zero_add] at *
    have hi2 : i < stepsN L := by
      have := (List.getElem?_eq_some_iff.mp hd).1
      rw [rng_len] at this
      exact this
    have ed : d = .int (i : Int) := by
      unfold rngD at hd
      rw [List.getElem?_map, List.getElem?_range hi2] at hd
      simpa using hd.symm
    subst ed
    simp
    refine em_of (by_eq h (by omega) (by omega) (by omega) (by omega)) ?_
    simp
    have bs := by_small (s := (stepsN L : Int)) (r := (i : Int)) h (by omega) (by omega) (by omega) (by omega)
    refine em_of (span_eq bs) ?_
    have es : spW (byS L (stepsN L) i) 0 none = spn L i := rfl
    rw [es]
    cases hs : spn L i with
    | none =>
      simp [isN_sp, spD]
      refine ⟨by omega, _, _, _, ⟨rfl, rfl, rfl⟩, ?_⟩
      rcases hf with ⟨h1, h2⟩ | h2
      · refine .inl ⟨h1, fun r hr => ?_⟩
        rcases Nat.lt_or_ge r i with q | q
        · exact h2 r q
        · have : r = i := by omega
          rw [this, hs]
      · exact .inr h2
    | some p =>
      obtain ⟨l, g⟩ := p
      obtain ⟨_, ok⟩ := spW_some hs
      obtain ⟨l0, _⟩ := one_some hs
      cases g with
      | none =>
        simp [isN_sp, spD, ix_t2, opD]
        exact ⟨i, hi2, ⟨_, _, hs⟩⟩
      | some g =>
        have gb := spW_hi hs (fun p hp => (bs p hp).2) (by simp) g rfl
        have hg : l ≤ g := of_decide_eq_true ok
        simp [isN_sp, spD, ix_t2, opD, dIsI, dMul_int (cml (i := g) (j := (stepsN L : Int)) 30 10 gb (by omega)), dAdd_int, dMax2]
        have v0 : 0 ≤ g * (stepsN L : Int) + i := by
          have := Int.mul_nonneg (show 0 ≤ g by omega) (show 0 ≤ (stepsN L : Int) by omega)
          omega
        refine ⟨by omega, _, _, _, ⟨rfl, rfl, rfl⟩, .inr ⟨?_, i, hi2, ⟨_, _, hs⟩⟩⟩
        split <;> omega
  · rintro ρ cs' ⟨hi, rfl, v1, v4, found, rfl, hf⟩
    rw [rng_len, Nat.zero_add] at hf
    simp
    rcases hf with ⟨h1, h2⟩ | ⟨h1, h2⟩
    · exact .inl ⟨h1, h2⟩
    · exact .inr ⟨h1, h2⟩
end My
namespace My
open PySem PySem.Spec PyProof.Rows L2 DL
def negL (u : Ln) : Ln := ⟨0 - u.a, 0 - u.b, 0 - u.c - 1⟩
def lnsD (L : List Ln) : D := .list (L.map Ln.d)
def Snd (U V : List Ln) : Prop := ∀ u ∈ U, ∀ n : Int, 0 ≤ n → ¬ Feas (V ++ [negL u]) n
def Uns (U V : List Ln) : Prop := ∃ u ∈ U, ∃ r l g, spn (V ++ [negL u]) r = some (l, g) ∧ r < stepsN (V ++ [negL u])
theorem neg_app {V : List Ln} {u : Ln} (hz : V.length + 1 ≤ sizeLine) : dAdd (lnsD V) (.list [.tuple [.int (0 - u.a), .int (0 - u.b), .int (0 - u.c - 1)]]) = some (.fr ((V ++ [negL u]).map Ln.d)) := by
  unfold lnsD
  rw [dAdd_list, if_pos (by simpa using hz), List.map_append]
  rfl
theorem missing_eq {U V : List Ln} {cs : Cs} (h : ∀ u ∈ U, LOk (V ++ [negL u])) : ∃ z, m_last_missing [.dat (lnsD U), .dat (lnsD V)] cs = some (.dat z, cs) ∧ (z = .int (-1) ∧ Snd U V ∨ (z = .none ∨ ∃ v : Int, 0 ≤ v ∧ z = .int v) ∧ Uns U V) := by
  suffices q : ∃ z, m_last_missing [.dat (lnsD U), .dat (lnsD V)] cs = some (z, cs) ∧ ∃ z', z = .dat z' ∧ (z' = .int (-1) ∧ Snd U V ∨ (z' = .none ∨ ∃ v : Int, 0 ≤ v ∧ z' = .int v) ∧ Uns U V) by
    obtain ⟨z, e, z', rfl, hz⟩ := q
    exact ⟨z', e, hz⟩
  refine em_exi ?_
  unfold m_last_missing
  rw [em_fnM]
  unfold b_last_missing
  have i1 : itemsOf (lnsD U) = some (U.map Ln.d) := rfl
  simp [dNeg_int, i1]
  refine el_inv (k := 0) (fun i ρ cs' => cs' = cs ∧ ∃ found v3 v4 v5 v6, ρ = [some (.dat (lnsD U)), some (.dat (lnsD V)), some (.dat (.int found)), v3, v4, v5, v6] ∧ (found = -1 ∧ Snd (U.take i) V ∨ 0 ≤ found ∧ Uns U V)) ⟨rfl, -1, none, none, none, none, rfl, .inl ⟨rfl, by rw [List.take_zero]; nofun⟩⟩ ?_ ?_
  · rintro i d ρ cs' hd ⟨rfl, found, v3, v4, v5, v6, rfl, hf⟩
    rw [Nat.zero_add] at *
    rw [List.getElem?_map] at hd
    obtain ⟨u, hu, rfl⟩ := Option.map_eq_some_iff.mp hd
    have hm := List.mem_of_getElem? hu
    have ok := h u hm
    have hz : V.length + 1 ≤ sizeLine := le_size (by have := ok.n; simp at this; omega)
    unfold Ln.d
    have s1 : 1 ≤ sizeLine := le_size (by decide)
    have s3 : 3 ≤ sizeLine := le_size (by decide)
    have na := neg_app (u := u) hz
    rw [Int.zero_sub, Int.zero_sub, Int.zero_sub] at na
    simp [dSub_int, s1, s3, na]
    obtain ⟨z, e, hz⟩ := last_eq (cs := cs') ok
    rw [List.map_append] at e
    refine em_of e ?_
    rcases hz with ⟨rfl, h1⟩ | ⟨rfl | ⟨v, v0, rfl⟩, r, hr, l, g, h1⟩
    · simp [dIsI, dMax2]
      rcases hf with ⟨f1, f2⟩ | ⟨f1, f2⟩
      · refine .inl ⟨fun _ => f1, fun w hw n hn => ?_⟩
        rw [List.take_add_one, hu] at hw
        rcases List.mem_append.mp hw with q | q
        · exact f2 w q n hn
        · simp at q
          subst q
          exact all_none h1 hn
      · exact .inr ⟨by split <;> omega, f2⟩
    · simp
      exact ⟨u, hm, r, l, g, h1, hr⟩
    · simp [dIsI, dMax2]
      refine .inr ⟨?_, u, hm, r, l, g, h1, hr⟩
      rcases hf with ⟨f1, f2⟩ | ⟨f1, f2⟩ <;> split <;> omega
  · rintro ρ cs' ⟨rfl, found, v3, v4, v5, v6, rfl, hf⟩
    have e : U.take (0 + (U.map Ln.d).length) = U := by rw [List.length_map, Nat.zero_add]; exact List.take_length
    rw [e] at hf
    simp
    rcases hf with ⟨h1, h2⟩ | ⟨h1, h2⟩
    · exact .inl ⟨h1, h2⟩
    · exact .inr ⟨h1, h2⟩
def Fc.ln (f : Fc) : Ln := ⟨f.a, f.b, f.c⟩
def lnE (fs : List Fc) (E : Int) : List Ln := (fs.filter (pk E)).map Fc.ln
theorem lnE_d {fs : List Fc} {E : Int} : (lnE fs E).map Ln.d = (fs.filter (pk E)).map Fc.line := by
  unfold lnE
  rw [List.map_map]
  rfl
theorem lnE_len {fs : List Fc} {E : Int} (h : Fcs fs) : (lnE fs E).length ≤ 10 := by
  unfold lnE
  rw [List.length_map]
  exact Nat.le_trans (List.length_filter_le _ _) h.1
theorem lnE_ok {fs : List Fc} {E : Int} (h : Fcs fs) {l : Ln} (hl : l ∈ lnE fs E) : l.a.natAbs ≤ 3 ∧ l.b.natAbs ≤ 3 ∧ l.c.natAbs ≤ 3 := by
  obtain ⟨f, hf, rfl⟩ := List.mem_map.mp hl
  have ho := h.2 f (List.mem_filter.mp hf).1
  exact ⟨ho.a, ho.b, ho.c⟩
theorem dv30 {b : Int} (h : b.natAbs ≤ 3) (h0 : b ≠ 0) : b.natAbs ∣ 30 := by
  have : b.natAbs = 1 ∨ b.natAbs = 2 ∨ b.natAbs = 3 := by omega
  rcases this with e | e | e <;> rw [e] <;> decide
theorem dv6 {b : Int} (h : b.natAbs ≤ 3) (h0 : b ≠ 0) : b.natAbs ∣ 6 := by
  have : b.natAbs = 1 ∨ b.natAbs = 2 ∨ b.natAbs = 3 := by omega
  rcases this with e | e | e <;> rw [e] <;> decide
theorem mem_neg {fs : List Fc} (h : Fcs fs) {u : Ln} (hu : u ∈ lnE fs 1) {l : Ln} (hl : l ∈ lnE fs (-1) ++ [negL u]) : l.a.natAbs ≤ 3 ∧ l.b.natAbs ≤ 3 ∧ l.c.natAbs ≤ 4 ∧ -4 ≤ l.c := by
  rcases List.mem_append.mp hl with q | q
  · have := lnE_ok h q
    omega
  · simp at q
    subst q
    have := lnE_ok h hu
    show (0 - u.a).natAbs ≤ 3 ∧ (0 - u.b).natAbs ≤ 3 ∧ (0 - u.c - 1).natAbs ≤ 4 ∧ -4 ≤ 0 - u.c - 1
    omega
theorem lok_neg {fs : List Fc} (h : Fcs fs) {u : Ln} (hu : u ∈ lnE fs 1) : LOk (lnE fs (-1) ++ [negL u]) := by
  refine ⟨?_, fun l hl => ?_⟩
  · have := lnE_len (E := -1) h
    rw [List.length_append]
    show _ + 1 ≤ 20
    omega
  · obtain ⟨a, b, c, _⟩ := mem_neg h hu hl
    exact ⟨by omega, by omega, by omega, fun z => dv30 b z⟩
theorem wl_len {fs : List Fc} {E : Int} {cs : Cs} (h : fs.length ≤ 10) : m_whole_lines [.dat (dOf fs), .dat (.int E)] cs = some (.fr ((fs.filter (pk E)).map Fc.line), cs) := by
  refine em_eq ?_
  unfold m_whole_lines
  rw [em_fnM]
  unfold b_whole_lines dOf
  simp
  refine ec_pure (fun d => match d with | .tuple [.tuple [.int p, .int q], _, .int e] => isOne p q && e == E | _ => false) (fun d => match d with | .tuple [_, l, _] => l | _ => .none) (fun x hx cs' => ?_) (le_size (by simp; omega)) ?_
  · obtain ⟨f, hf, rfl⟩ := List.mem_map.mp hx
    unfold Fc.d
    simp [wipeR, dEq_one]
    cases hi : isOne f.p f.q <;> simp [fdEq_int, hi]
  · simp
    have e : ∀ l : List Fc, List.map (fun d => match d with | .tuple [_, l, _] => l | _ => PyData.none) (List.filter (fun d => match d with | .tuple [.tuple [.int p, .int q], _, .int e] => isOne p q && e == E | _ => false) (l.map Fc.d)) = (l.filter (pk E)).map Fc.line := by
      intro l
      induction l with
      | nil => rfl
      | cons f r ih =>
        rw [List.map_cons, List.filter_cons, List.filter_cons]
        show (if (isOne f.p f.q && f.e == E) = true then _ else _ : List D).map _ = _
        unfold pk Fc.one
        cases (isOne f.p f.q && f.e == E) with
        | true =>
          simp only [if_pos, List.map_cons]
          rw [ih]
          rfl
        | false =>
          simp
          exact ih
    exact e fs
theorem sound_gen {fs : List Fc} {cs : Cs} (h : fs.length ≤ 10) (ok : ∀ u ∈ lnE fs 1, LOk (lnE fs (-1) ++ [negL u])) : ∃ b, m_is_sound_everywhere [.dat (dOf fs)] cs = some (.dat (.bool b), cs) ∧ (b = true ∧ Snd (lnE fs 1) (lnE fs (-1)) ∨ b = false ∧ Uns (lnE fs 1) (lnE fs (-1))) := by
  suffices q : ∃ z, m_is_sound_everywhere [.dat (dOf fs)] cs = some (z, cs) ∧ ∃ b, z = .dat (.bool b) ∧ (b = true ∧ Snd (lnE fs 1) (lnE fs (-1)) ∨ b = false ∧ Uns (lnE fs 1) (lnE fs (-1))) by
    obtain ⟨z, e, z', rfl, hz⟩ := q
    exact ⟨z', e, hz⟩
  refine em_exi ?_
  unfold m_is_sound_everywhere
  rw [em_fnM]
  unfold b_is_sound_everywhere
  simp [dNeg_int]
  refine em_of (wl_len h) ?_
  simp
  refine em_of (wl_len h) ?_
  simp
  obtain ⟨z, e, hz⟩ := missing_eq (cs := cs) ok
  unfold lnsD at e
  rw [lnE_d, lnE_d] at e
  refine em_of e ?_
  rcases hz with ⟨rfl, h1⟩ | ⟨rfl | ⟨v, v0, rfl⟩, h1⟩
  · simp [fdEq_int]
    exact h1
  · have : dEq PyData.none (.int (-1)) = some (db false) := by
      unfold dEq
      rw [if_pos ⟨rfl, rfl, by show min 0 0 ≤ 100; decide⟩]
      rfl
    simp [this]
    exact h1
  · have : ¬ v = -1 := by omega
    simp [fdEq_int, this]
    exact h1
end My
namespace My
open PySem PySem.Spec PyProof.Rows L2 DL
def mxA (o : Option Int) (x : Int) : Option Int := some (match o with
  | none => x
  | some l => if x < l then l else x)
def mnA (o : Option Int) (x : Int) : Option Int := some (match o with
  | none => x
  | some l => if l < x then l else x)
def mxL (n : Int) (o : Option Int) (l : Ln) : Option Int := if 0 < l.b then mxA o (0 - l.w n / l.b) else o
def mnL (n : Int) (o : Option Int) (l : Ln) : Option Int := if l.b < 0 then mnA o (l.w n / (0 - l.b)) else o
def mxO (L : List Ln) (n : Int) : Option Int := L.foldl (mxL n) none
def mnO (L : List Ln) (n : Int) : Option Int := L.foldl (mnL n) none
def zneg (L : List Ln) (n : Int) : Bool := L.any fun l => decide (l.b = 0 ∧ l.w n < 0)
def isMax (L : List Ln) (n : Int) (o0 o : Option Int) : Prop := (o = none ↔ o0 = none ∧ ∀ l ∈ L, ¬ 0 < l.b) ∧ ∀ m, o = some m → (o0 = some m ∨ ∃ l ∈ L, 0 < l.b ∧ m = 0 - l.w n / l.b) ∧ (∀ m0, o0 = some m0 → m0 ≤ m) ∧ ∀ l ∈ L, 0 < l.b → 0 - l.w n / l.b ≤ m
def isMin (L : List Ln) (n : Int) (o0 o : Option Int) : Prop := (o = none ↔ o0 = none ∧ ∀ l ∈ L, ¬ l.b < 0) ∧ ∀ m, o = some m → (o0 = some m ∨ ∃ l ∈ L, l.b < 0 ∧ m = l.w n / (0 - l.b)) ∧ (∀ m0, o0 = some m0 → m ≤ m0) ∧ ∀ l ∈ L, l.b < 0 → m ≤ l.w n / (0 - l.b)
theorem mx_fold {n : Int} : ∀ {L : List Ln} {o : Option Int}, isMax L n o (L.foldl (mxL n) o)
  | [], o => ⟨by simp, fun m hm => ⟨.inl hm, fun m0 h0 => by
      rw [List.foldl_nil] at hm
      rw [hm] at h0
      cases h0
      exact Int.le_refl _, nofun⟩⟩
  | l :: r, o => by
    obtain ⟨h1, h2⟩ := mx_fold (n := n) (L := r) (o := mxL n o l)
    rw [List.foldl_cons]
    by_cases hb : 0 < l.b
    · have e : mxL n o l = mxA o (0 - l.w n / l.b) := if_pos hb
      rw [e] at h1 h2 ⊢
      refine ⟨?_, fun m hm => ?_⟩
      · rw [h1]
        constructor
        · rintro ⟨z, _⟩
          cases z
        · rintro ⟨_, z⟩
          exact absurd hb (z l (List.mem_cons_self ..))
      · obtain ⟨a, b, c⟩ := h2 m hm
        have b' := b _ rfl
        refine ⟨?_, fun m0 h0 => ?_, fun k hk kb => ?_⟩
        · rcases a with a | ⟨k, hk, kb, e2⟩
          · cases o with
            | none =>
              right
              simp only [mxA, Option.some.injEq] at a
              exact ⟨l, List.mem_cons_self .., hb, a.symm⟩
            | some g =>
              simp only [mxA, Option.some.injEq] at a
              split at a
              · left; rw [a]
              · right; exact ⟨l, List.mem_cons_self .., hb, a.symm⟩
          · exact .inr ⟨k, List.mem_cons_of_mem _ hk, kb, e2⟩
        · subst h0
          simp only at b'
          split at b' <;> omega
        · rcases List.mem_cons.mp hk with rfl | hk
          · cases o with
            | none => exact b'
            | some g =>
              simp only at b'
              split at b' <;> omega
          · exact c k hk kb
    · have e : mxL n o l = o := if_neg hb
      rw [e] at h1 h2 ⊢
      refine ⟨?_, fun m hm => ?_⟩
      · rw [h1]
        constructor
        · rintro ⟨z, y⟩
          refine ⟨z, fun k hk => ?_⟩
          rcases List.mem_cons.mp hk with rfl | hk
          · exact hb
          · exact y k hk
        · rintro ⟨z, y⟩
          exact ⟨z, fun k hk => y k (List.mem_cons_of_mem _ hk)⟩
      · obtain ⟨a, b, c⟩ := h2 m hm
        refine ⟨?_, b, fun k hk kb => ?_⟩
        · rcases a with a | ⟨k, hk, kb, e2⟩
          · exact .inl a
          · exact .inr ⟨k, List.mem_cons_of_mem _ hk, kb, e2⟩
        · rcases List.mem_cons.mp hk with rfl | hk
          · exact absurd kb hb
          · exact c k hk kb
theorem mn_fold {n : Int} : ∀ {L : List Ln} {o : Option Int}, isMin L n o (L.foldl (mnL n) o)
  | [], o => ⟨by simp, fun m hm => ⟨.inl hm, fun m0 h0 => by
      rw [List.foldl_nil] at hm
      rw [hm] at h0
      cases h0
      exact Int.le_refl _, nofun⟩⟩
  | l :: r, o => by
    obtain ⟨h1, h2⟩ := mn_fold (n := n) (L := r) (o := mnL n o l)
    rw [List.foldl_cons]
    by_cases hb : l.b < 0
    · have e : mnL n o l = mnA o (l.w n / (0 - l.b)) := if_pos hb
      rw [e] at h1 h2 ⊢
      refine ⟨?_, fun m hm => ?_⟩
      · rw [h1]
        constructor
        · rintro ⟨z, _⟩
          cases z
        · rintro ⟨_, z⟩
          exact absurd hb (z l (List.mem_cons_self ..))
      · obtain ⟨a, b, c⟩ := h2 m hm
        have b' := b _ rfl
        refine ⟨?_, fun m0 h0 => ?_, fun k hk kb => ?_⟩
        · rcases a with a | ⟨k, hk, kb, e2⟩
          · cases o with
            | none =>
              right
              simp only [mnA, Option.some.injEq] at a
              exact ⟨l, List.mem_cons_self .., hb, a.symm⟩
            | some g =>
              simp only [mnA, Option.some.injEq] at a
              split at a
              · left; rw [a]
              · right; exact ⟨l, List.mem_cons_self .., hb, a.symm⟩
          · exact .inr ⟨k, List.mem_cons_of_mem _ hk, kb, e2⟩
        · subst h0
          simp only at b'
          split at b' <;> omega
        · rcases List.mem_cons.mp hk with rfl | hk
          · cases o with
            | none => exact b'
            | some g =>
              simp only at b'
              split at b' <;> omega
          · exact c k hk kb
    · have e : mnL n o l = o := if_neg hb
      rw [e] at h1 h2 ⊢
      refine ⟨?_, fun m hm => ?_⟩
      · rw [h1]
        constructor
        · rintro ⟨z, y⟩
          refine ⟨z, fun k hk => ?_⟩
          rcases List.mem_cons.mp hk with rfl | hk
          · exact hb
          · exact y k hk
        · rintro ⟨z, y⟩
          exact ⟨z, fun k hk => y k (List.mem_cons_of_mem _ hk)⟩
      · obtain ⟨a, b, c⟩ := h2 m hm
        refine ⟨?_, b, fun k hk kb => ?_⟩
        · rcases a with a | ⟨k, hk, kb, e2⟩
          · exact .inl a
          · exact .inr ⟨k, List.mem_cons_of_mem _ hk, kb, e2⟩
        · rcases List.mem_cons.mp hk with rfl | hk
          · exact absurd kb hb
          · exact c k hk kb
def spanD (L : List Ln) (n : Int) : D := if zneg L n = true then .tuple [.int 1, .int 0] else .tuple [opD (mxO L n), opD (mnO L n)]
theorem dNN : dIs not .none .none = some (db false) := rfl
theorem dNI {g : Int} : dIs not (.int g) .none = some (db true) := rfl
theorem dIsN {o : Option Int} : dIs not (opD o) .none = some (db o.isSome) := by cases o <;> rfl
structure LSm (L : List Ln) : Prop where
  l : ∀ l ∈ L, l.a.natAbs ≤ 100 ∧ l.b.natAbs ≤ 100 ∧ l.c.natAbs ≤ 100
theorem LOk.sm {L : List Ln} (h : LOk L) : LSm L := ⟨fun l hl => by
  obtain ⟨a, b, c, _⟩ := h.l l hl
  exact ⟨a, b, c⟩⟩
theorem lspan_eq {L : List Ln} {n : Int} {cs : Cs} (h : LSm L) (hn : n.natAbs ≤ 1000) : m__law_span [.dat (lnsD L), .dat (.int n)] cs = some (.dat (spanD L n), cs) := by
  refine em_eq ?_
  unfold m__law_span
  rw [em_fnM]
  unfold b__law_span
  have two : 2 ≤ sizeLine := two_fit
  have i1 : itemsOf (lnsD L) = some (L.map Ln.d) := rfl
  simp [two, i1]
  refine el_inv (k := 0) (fun i ρ cs' => cs' = cs ∧ zneg (L.take i) n = false ∧ ∃ v4 v5 v6 v7, ρ = [some (.dat (lnsD L)), some (.dat (.int n)), some (.dat (opD (mxO (L.take i) n))), some (.dat (opD (mnO (L.take i) n))), v4, v5, v6, v7]) ⟨rfl, rfl, none, none, none, none, rfl⟩ ?_ ?_
  · rintro i d ρ cs' hd ⟨rfl, hz, v4, v5, v6, v7, rfl⟩
    rw [Nat.zero_add] at *
    rw [List.getElem?_map] at hd
    obtain ⟨l, hl, rfl⟩ := Option.map_eq_some_iff.mp hd
    obtain ⟨la, lb, lc⟩ := h.l l (List.mem_of_getElem? hl)
    have m1 : CMl l.a n := cml 10 10 (by omega) (by omega)
    have wa := w_ab (r := n) la lc hn
    have ex : mxO (L.take (i + 1)) n = mxL n (mxO (L.take i) n) l := by unfold mxO; rw [List.take_add_one, hl]; simp
    have en : mnO (L.take (i + 1)) n = mnL n (mnO (L.take i) n) l := by unfold mnO; rw [List.take_add_one, hl]; simp
    have ez : zneg (L.take (i + 1)) n = (zneg (L.take i) n || decide (l.b = 0 ∧ l.w n < 0)) := by unfold zneg; rw [List.take_add_one, hl]; simp
    rw [ex, en, ez, hz]
    have zt : l.b = 0 ∧ l.w n < 0 → zneg L n = true := fun q => List.any_eq_true.mpr ⟨l, List.mem_of_getElem? hl, decide_eq_true q⟩
    unfold Ln.d
    unfold Ln.w at *
    generalize mxO (L.take i) n = o1 at *
    generalize mnO (L.take i) n = o2 at *
    simp [dMul_int m1, dAdd_int, fdEq_int, dLt_int, dGt_int]
    rcases Int.lt_trichotomy l.b 0 with hb | hb | hb
    · have n1 : ¬ l.b = 0 := by omega
      have n2 : ¬ 0 < l.b := by omega
      have d1 := dDiv_int (dvi (i := l.a * n + l.c) (j := 0 - l.b) (by omega) (by omega))
      rw [fdiv_pos (show 0 < 0 - l.b by omega)] at d1
      unfold mxL mnL mnA Ln.w
      rw [if_neg n2, if_pos hb]
      cases o2 with
      | none =>
        simp [hb, n1, n2, dSub_int]
        rw [Int.zero_sub] at d1
        simp [d1, dNN, dNI, opD]
      | some g =>
        simp [hb, n1, n2, dSub_int]
        rw [Int.zero_sub] at d1
        simp [d1, dNN, dNI, opD, dMin2]
    · by_cases hw : l.a * n + l.c < 0
      · have := zt ⟨hb, hw⟩
        unfold spanD
        rw [this]
        simp [hb, hw, two]
      · unfold mxL mnL
        rw [hb]
        simp [hb, hw]
        omega
    · have n1 : ¬ l.b = 0 := by omega
      have n2 : ¬ l.b < 0 := by omega
      have d1 := dDiv_int (dvi (i := l.a * n + l.c) (j := l.b) (by omega) (by omega))
      rw [fdiv_pos hb] at d1
      unfold mxL mnL mxA Ln.w
      rw [if_pos hb, if_neg n2]
      cases o1 with
      | none => simp [hb, n1, n2, dSub_int, d1, dNN, dNI, opD]
      | some g => simp [hb, n1, n2, dSub_int, d1, dNN, dNI, opD, dMax2]
  · rintro ρ cs' ⟨rfl, hz, v4, v5, v6, v7, rfl⟩
    have e : L.take (0 + (L.map Ln.d).length) = L := by rw [List.length_map, Nat.zero_add]; exact List.take_length
    rw [e] at hz ⊢
    simp [two, spanD, hz]
end My
namespace My
open PySem PySem.Spec PyProof.Rows L2 DL
def someB (L : List Ln) (n : Int) : Bool := if zneg L n = true then false else match mxO L n, mnO L n with
  | some a, some b => decide (a ≤ b)
  | _, _ => true
theorem is_some_eq {L : List Ln} {n : Int} {cs : Cs} (h : LSm L) (hn : n.natAbs ≤ 1000) : m__law_is_some [.dat (lnsD L), .dat (.int n)] cs = some (.dat (.bool (someB L n)), cs) := by
  refine em_eq ?_
  unfold m__law_is_some
  rw [em_fnM]
  unfold b__law_is_some
  simp
  refine em_of (lspan_eq h hn) ?_
  unfold spanD someB
  cases hz : zneg L n with
  | true => simp [dIsI, dLe_int]
  | false =>
    simp
    cases mxO L n with
    | none =>
      have : dIs id .none .none = some (db true) := rfl
      simp [opD, this]
    | some a =>
      cases mnO L n with
      | none =>
        have : dIs id .none .none = some (db true) := rfl
        simp [opD, this, dIsI]
      | some b => simp [opD, dIsI, dLe_int]
theorem some_iff {L : List Ln} {n : Int} : someB L n = true ↔ Feas L n := by
  obtain ⟨x1, x2⟩ := mx_fold (n := n) (L := L) (o := none)
  obtain ⟨y1, y2⟩ := mn_fold (n := n) (L := L) (o := none)
  have ex : L.foldl (mxL n) none = mxO L n := rfl
  have ey : L.foldl (mnL n) none = mnO L n := rfl
  rw [ex] at x1 x2
  rw [ey] at y1 y2
  unfold someB Feas
  have zn : zneg L n = false ↔ ∀ l ∈ L, l.b = 0 → 0 ≤ l.w n := by
    unfold zneg
    rw [List.any_eq_false]
    constructor
    · intro h l hl hb
      have := h l hl
      simp at this
      exact this hb
    · intro h l hl
      simp
      exact fun hb => h l hl hb
  cases hz : zneg L n with
  | true =>
    simp
    intro h
    have := zn.mpr h
    rw [hz] at this
    cases this
  | false =>
    have zz := zn.mp hz
    simp only [Bool.false_eq_true, if_false]
    cases hx : mxO L n with
    | none =>
      have := (x1.mp hx).2
      simp
      exact ⟨zz, fun l hl lb m hm mb => absurd mb (this m hm)⟩
    | some a =>
      cases hy : mnO L n with
      | none =>
        have := (y1.mp hy).2
        simp
        exact ⟨zz, fun l hl lb => absurd lb (this l hl)⟩
      | some b =>
        obtain ⟨p1, _, p3⟩ := x2 a hx
        obtain ⟨q1, _, q3⟩ := y2 b hy
        simp only [decide_eq_true_iff]
        constructor
        · intro hab
          refine ⟨zz, fun l hl lb m hm mb => ?_⟩
          have := p3 m hm mb
          have := q3 l hl lb
          omega
        · rintro ⟨_, h⟩
          rcases p1 with p1 | ⟨m, hm, mb, em⟩
          · cases p1
          · rcases q1 with q1 | ⟨l, hl, lb, el⟩
            · cases q1
            · have := h l hl lb m hm mb
              omega
def lackB (U V : List Ln) (n : Int) : Bool := U.any fun u => someB (V ++ [negL u]) n
def dLn : D → Ln
  | .tuple [.int a, .int b, .int c] => ⟨a, b, c⟩
  | _ => ⟨0, 0, 0⟩
theorem dLn_d {l : Ln} : dLn l.d = l := rfl
theorem lacks_eq {U V : List Ln} {n : Int} {cs : Cs} (h : ∀ u ∈ U, LOk (V ++ [negL u])) (hU : U.length ≤ 20) (hn : n.natAbs ≤ 1000) : m__law_lacks [.dat (lnsD U), .dat (lnsD V), .dat (.int n)] cs = some (.dat (.bool (lackB U V n)), cs) := by
  refine em_eq ?_
  unfold m__law_lacks
  rw [em_fnM]
  unfold b__law_lacks
  have i1 : itemsOf (lnsD U) = some (U.map Ln.d) := rfl
  simp [i1]
  refine ec_pure (fun d => someB (V ++ [negL (dLn d)]) n) (fun _ => .int 1) (fun x hx cs' => ?_) (le_size (by simp; omega)) ?_
  · obtain ⟨u, hu, rfl⟩ := List.mem_map.mp hx
    have ok := h u hu
    have hz : V.length + 1 ≤ sizeLine := le_size (by have := ok.n; simp at this; omega)
    have s1 : 1 ≤ sizeLine := le_size (by decide)
    have s3 : 3 ≤ sizeLine := le_size (by decide)
    have na := neg_app (u := u) hz
    rw [Int.zero_sub, Int.zero_sub, Int.zero_sub] at na
    have e := is_some_eq (cs := cs') ok.sm hn
    unfold lnsD at e
    rw [List.map_append] at e
    unfold Ln.d at *
    simp [wipeR, dSub_int, s1, s3, na]
    refine em_of e ?_
    simp
    rfl
  · have pl : PyData.plainAll (((U.map Ln.d).filter fun d => someB (V ++ [negL (dLn d)]) n).map fun _ => PyData.int 1) = true := plain_all.mpr fun d hd => by
      obtain ⟨_, _, rfl⟩ := List.mem_map.mp hd
      rfl
    rw [List.nil_append, dNe_nil pl]
    simp
    unfold lackB
    rw [Bool.eq_iff_iff]
    simp only [Bool.not_eq_true', List.any_eq_true]
    rw [List.isEmpty_iff, List.filter_eq_nil_iff, List.any_eq_false]
    constructor
    · intro z u hu
      exact z u.d (List.mem_map.mpr ⟨u, hu, rfl⟩)
    · intro z d hd
      obtain ⟨u, hu, rfl⟩ := List.mem_map.mp hd
      exact z u hu
def soundL (fs : List Fc) : Bool := (List.range 120).all fun n => !lackB (lnE fs 1) (lnE fs (-1)) (n : Int)
def intOf : D → Int
  | .int i => i
  | _ => 0
theorem sdouble_eq {fs : List Fc} {cs : Cs} (h : Fcs fs) : m__law_sound_double [.dat (dOf fs)] cs = some (.dat (.bool (soundL fs)), cs) := by
  refine em_eq ?_
  unfold m__law_sound_double
  rw [em_fnM]
  unfold b__law_sound_double
  have two : 2 ≤ sizeLine := two_fit
  simp [dSub_int]
  refine em_of (lwl_eq h) ?_
  simp
  refine em_of (lwl_eq h) ?_
  simp [two]
  rw [← lnE_d, ← lnE_d]
  refine ⟨sm_of (by decide), ?_⟩
  refine ec_pure (fun d => lackB (lnE fs 1) (lnE fs (-1)) (intOf d)) id (fun x hx cs' => ?_) (le_size (by show 0 + 120 ≤ _; decide)) ?_
  · obtain ⟨j, hj, rfl⟩ := rng_mem hx
    have hj' : j < 120 := hj
    have e := lacks_eq (n := (j : Int)) (cs := cs') (fun u hu => lok_neg h hu) (by have := lnE_len (E := 1) h; omega) (by omega)
    unfold lnsD at e
    simp [wipeR]
    refine em_of e ?_
    simp
    rfl
  · have pl : PyData.plainAll (((rngD 0 120).filter fun d => lackB (lnE fs 1) (lnE fs (-1)) (intOf d)).map id) = true := plain_all.mpr fun d hd => by
      rw [List.map_id] at hd
      obtain ⟨j, _, rfl⟩ := rng_mem (List.mem_filter.mp hd).1
      rfl
    rw [List.nil_append, dEq_nil pl, List.map_id]
    simp
    unfold soundL
    rw [Bool.eq_iff_iff, List.isEmpty_iff, List.filter_eq_nil_iff, List.all_eq_true]
    constructor
    · intro z n hn
      have hn' := List.mem_range.mp hn
      have := z (.int (0 + (n : Int))) (by
        unfold rngD
        exact List.mem_map.mpr ⟨n, hn, by simp⟩)
      rw [Int.zero_add] at this
      have this : ¬ lackB (lnE fs 1) (lnE fs (-1)) (n : Int) = true := this
      simpa using this
    · intro z d hd
      obtain ⟨j, hj, rfl⟩ := rng_mem hd
      have := z j (List.mem_range.mpr hj)
      rw [Int.zero_add]
      show ¬ lackB (lnE fs 1) (lnE fs (-1)) (j : Int) = true
      simpa using this
/-- what the program finds is what the law finds, count by count -/
theorem sound_law {fs : List Fc} (h : Fcs fs) : (Snd (lnE fs 1) (lnE fs (-1)) → soundL fs = true) ∧ (Uns (lnE fs 1) (lnE fs (-1)) → soundL fs = false) := by
  constructor
  · intro hs
    refine List.all_eq_true.mpr fun n _ => ?_
    have : lackB (lnE fs 1) (lnE fs (-1)) (n : Int) = false := List.any_eq_false.mpr fun u hu => by
      rw [some_iff]
      exact hs u hu n (by omega)
    rw [this]
    rfl
  · rintro ⟨u, hu, r, l, g, h1, hr⟩
    obtain ⟨l0, hf⟩ := one_some h1
    have l8 := one_near h1 fun m hm => (mem_neg h hu hm).2.2.2
    have s6 : stepsN (lnE fs (-1) ++ [negL u]) ≤ 6 := Nat.le_of_dvd (by decide) (st_of fun m hm mb => dv6 (mem_neg h hu hm).2.1 mb)
    generalize stepsN (lnE fs (-1) ++ [negL u]) = s at *
    have b1 : l * (s : Int) ≤ 8 * 6 := by
      have a : l * (s : Int) ≤ 8 * (s : Int) := Int.mul_le_mul_of_nonneg_right l8 (by omega)
      omega
    have b0 : 0 ≤ l * (s : Int) := Int.mul_nonneg l0 (by omega)
    generalize l * (s : Int) = t at *
    obtain ⟨n, hn⟩ := Int.eq_ofNat_of_zero_le (show 0 ≤ t + r by omega)
    refine List.all_eq_false.mpr ⟨n, List.mem_range.mpr (by omega), ?_⟩
    have : lackB (lnE fs 1) (lnE fs (-1)) (n : Int) = true := List.any_eq_true.mpr ⟨u, hu, by
      rw [some_iff, ← hn]
      exact hf⟩
    rw [this]
    decide
theorem sound_eq {fs : List Fc} {cs : Cs} (h : Fcs fs) : m_is_sound_everywhere [.dat (dOf fs)] cs = some (.dat (.bool (soundL fs)), cs) := by
  obtain ⟨b, e, hb⟩ := sound_gen (cs := cs) h.1 fun u hu => lok_neg h hu
  rw [e]
  rcases hb with ⟨rfl, z⟩ | ⟨rfl, z⟩
  · rw [(sound_law h).1 z]
  · rw [(sound_law h).2 z]
end My
namespace My
open PySem PySem.Spec PyProof.Rows L2 DL
def bndB (V : List Ln) : Bool := (V.any fun l => decide (0 < l.b)) && (V.any fun l => decide (l.b < 0))
theorem ix5 {a b c d e : D} : dIx (.tuple [a, b, c, d, e]) (.int 4) = some (.dat e) := rfl
theorem bounded_eq {a b c d : D} {fs : List Fc} {cs : Cs} (h : Fcs fs) : m_is_bounded_in [.dat (.tuple [a, b, c, d, dOf fs])] cs = some (.dat (.bool (bndB (lnE fs (-1)))), cs) := by
  refine em_eq ?_
  unfold m_is_bounded_in
  rw [em_fnM]
  unfold b_is_bounded_in
  simp [ix5, dNeg_int]
  refine em_of (wl_eq h) ?_
  rw [← lnE_d]
  simp
  have hl := lnE_len (E := -1) h
  generalize lnE fs (-1) = V at *
  have zz : V.length ≤ sizeLine := le_size (by omega)
  have am : ∀ P : Ln → Bool, ((V.map Ln.d).map fun d => PyData.bool (P (dLn d))) = V.map fun l => PyData.bool (P l) := fun P => by
    rw [List.map_map]
    rfl
  have an : ∀ P : Ln → Bool, dAny [.list (V.map fun l => PyData.bool (P l))] = some (db (V.any P)) := fun P => by
    have ok : allOk (V.map fun d => PyData.bool (P d)) = true := by
      have := allok_b (l := V.map P)
      rwa [List.map_map] at this
    show (if allOk (V.map fun d => PyData.bool (P d)) = true then some (db ((V.map fun d => PyData.bool (P d)).any PyData.truthy)) else none) = _
    rw [if_pos ok, List.any_map]
    rfl
  have a1 := an fun l => decide (0 < l.b)
  have a2 := an fun l => decide (l.b < 0)
  unfold bndB
  generalize (V.any fun l => decide (0 < l.b)) = p at *
  generalize (V.any fun l => decide (l.b < 0)) = q at *
  have zz' : ([] : List D).length + (V.map Ln.d).length ≤ sizeLine := by simpa using zz
  refine ec_pure (fun _ => true) (fun d => .bool (decide (0 < (dLn d).b))) (fun x hx cs' => ?_) zz' ?_
  · obtain ⟨l, hl, rfl⟩ := List.mem_map.mp hx
    unfold Ln.d
    simp [wipeR, dGt_int]
    rfl
  · rw [List.nil_append, List.filter_eq_self.mpr (fun _ _ => rfl), am fun l => decide (0 < l.b), a1]
    cases p with
    | false => simp
    | true =>
      simp
      refine ec_pure (fun _ => true) (fun d => .bool (decide ((dLn d).b < 0))) (fun x hx cs' => ?_) zz' ?_
      · obtain ⟨l, hl, rfl⟩ := List.mem_map.mp hx
        unfold Ln.d
        simp [wipeR, dLt_int]
        rfl
      · rw [List.nil_append, List.filter_eq_self.mpr (fun _ _ => rfl), am fun l => decide (l.b < 0), a2]
        simp
def leL (V : List Ln) (n : Int) : List Int := (V.filter fun l => decide (0 < l.b)).map fun l => 0 - l.w n / l.b
def moL (V : List Ln) (n : Int) : List Int := (V.filter fun l => decide (l.b < 0)).map fun l => l.w n / (0 - l.b)
def bdD (V : List Ln) (n : Int) : D := if zneg V n = true then .none else match mxO V n, mnO V n with
  | some a, some b => if a ≤ b then .tuple [.int a, .int b] else .none
  | _, _ => .none
theorem mx_of {V : List Ln} {n : Int} (h : leL V n ≠ []) : mxO V n = some (maxI (leL V n)) := by
  obtain ⟨h1, h2⟩ := mx_fold (n := n) (L := V) (o := none)
  obtain ⟨m1, m2⟩ := maxI_mem h
  have e : V.foldl (mxL n) none = mxO V n := rfl
  rw [e] at h1 h2
  cases hx : mxO V n with
  | none =>
    have z := (h1.mp hx).2
    obtain ⟨l, hl, _⟩ := List.mem_map.mp m1
    obtain ⟨hl, hb⟩ := List.mem_filter.mp hl
    exact absurd (of_decide_eq_true hb) (z l hl)
  | some a =>
    obtain ⟨p1, _, p3⟩ := h2 a hx
    rcases p1 with p1 | ⟨l, hl, lb, el⟩
    · cases p1
    · have u1 := m2 a (List.mem_map.mpr ⟨l, List.mem_filter.mpr ⟨hl, decide_eq_true lb⟩, el.symm⟩)
      obtain ⟨k, hk, ek⟩ := List.mem_map.mp m1
      obtain ⟨hk, kb⟩ := List.mem_filter.mp hk
      have u2 := p3 k hk (of_decide_eq_true kb)
      rw [ek] at u2
      rw [Int.le_antisymm u1 u2]
theorem mn_of {V : List Ln} {n : Int} (h : moL V n ≠ []) : mnO V n = some (minI (moL V n)) := by
  obtain ⟨h1, h2⟩ := mn_fold (n := n) (L := V) (o := none)
  obtain ⟨m1, m2⟩ := minI_mem h
  have e : V.foldl (mnL n) none = mnO V n := rfl
  rw [e] at h1 h2
  cases hx : mnO V n with
  | none =>
    have z := (h1.mp hx).2
    obtain ⟨l, hl, _⟩ := List.mem_map.mp m1
    obtain ⟨hl, hb⟩ := List.mem_filter.mp hl
    exact absurd (of_decide_eq_true hb) (z l hl)
  | some a =>
    obtain ⟨p1, _, p3⟩ := h2 a hx
    rcases p1 with p1 | ⟨l, hl, lb, el⟩
    · cases p1
    · have u1 := m2 a (List.mem_map.mpr ⟨l, List.mem_filter.mpr ⟨hl, decide_eq_true lb⟩, el.symm⟩)
      obtain ⟨k, hk, ek⟩ := List.mem_map.mp m1
      obtain ⟨hk, kb⟩ := List.mem_filter.mp hk
      have u2 := p3 k hk (of_decide_eq_true kb)
      rw [ek] at u2
      rw [Int.le_antisymm u2 u1]
theorem le_take {L : List Ln} {n : Int} {i : Nat} {l : Ln} (h : L[i]? = some l) : leL (L.take (i + 1)) n = leL (L.take i) n ++ if 0 < l.b then [0 - l.w n / l.b] else [] := by
  unfold leL
  rw [List.take_add_one, h]
  by_cases hb : 0 < l.b <;> simp [hb]
theorem mo_take {L : List Ln} {n : Int} {i : Nat} {l : Ln} (h : L[i]? = some l) : moL (L.take (i + 1)) n = moL (L.take i) n ++ if l.b < 0 then [l.w n / (0 - l.b)] else [] := by
  unfold moL
  rw [List.take_add_one, h]
  by_cases hb : l.b < 0 <;> simp [hb]
theorem le_len {L : List Ln} {n : Int} : (leL L n).length ≤ L.length := by unfold leL; rw [List.length_map]; exact List.length_filter_le ..
theorem mo_len {L : List Ln} {n : Int} : (moL L n).length ≤ L.length := by unfold moL; rw [List.length_map]; exact List.length_filter_le ..
theorem dMaxL_int {is : List Int} (h : is ≠ []) : dMaxL [.list (is.map .int)] = some (.dat (.int (maxI is))) := by
  show (intsD (is.map .int)).bind _ = _
  have e : intsD (is.map PyData.int) = some is := by
    induction is with
    | nil => rfl
    | cons a r ih =>
      cases r with
      | nil => rfl
      | cons b t =>
        have := ih (by simp)
        rw [List.map_cons]
        unfold intsD
        rw [this]
        rfl
  rw [e]
  show (if is ≠ [] then _ else _) = _
  rw [if_pos h]
theorem dMinL_int {is : List Int} (h : is ≠ []) : dMinL [.list (is.map .int)] = some (.dat (.int (minI is))) := by
  show (intsD (is.map .int)).bind _ = _
  have e : intsD (is.map PyData.int) = some is := by
    induction is with
    | nil => rfl
    | cons a r ih =>
      cases r with
      | nil => rfl
      | cons b t =>
        have := ih (by simp)
        rw [List.map_cons]
        unfold intsD
        rw [this]
        rfl
  rw [e]
  show (if is ≠ [] then _ else _) = _
  rw [if_pos h]
theorem spank_eq {a b c d : D} {fs : List Fc} {n : Int} {cs : Cs} (h : Fcs fs) (hb : bndB (lnE fs (-1)) = true) (hn : n.natAbs ≤ 1000) : m_span_of_k [.dat (.tuple [a, b, c, d, dOf fs]), .dat (.int n)] cs = some (.dat (bdD (lnE fs (-1)) n), cs) := by
  refine em_eq ?_
  unfold m_span_of_k
  rw [em_fnM]
  unfold b_span_of_k
  simp [ix5, dNeg_int]
  refine em_of (wl_eq h) ?_
  rw [← lnE_d]
  simp
  have hl := lnE_len (E := -1) h
  have sm : ∀ l ∈ lnE fs (-1), l.a.natAbs ≤ 3 ∧ l.b.natAbs ≤ 3 ∧ l.c.natAbs ≤ 3 := fun l hl => lnE_ok h hl
  generalize lnE fs (-1) = L at *
  have two : 2 ≤ sizeLine := two_fit
  refine el_inv (k := 0) (fun i ρ cs' => cs' = cs ++ [some ((leL (L.take i) n).map .int), some ((moL (L.take i) n).map .int)] ∧ zneg (L.take i) n = false ∧ ∃ v4 v5 v6 v7, ρ = [some (.dat (.tuple [a, b, c, d, dOf fs])), some (.dat (.int n)), some (.own cs.length), some (.own (cs.length + 1)), v4, v5, v6, v7]) ⟨rfl, rfl, none, none, none, none, rfl⟩ ?_ ?_
  · rintro i d' ρ cs' hd ⟨rfl, hz, v4, v5, v6, v7, rfl⟩
    rw [Nat.zero_add] at *
    rw [List.getElem?_map] at hd
    obtain ⟨l, hl', rfl⟩ := Option.map_eq_some_iff.mp hd
    obtain ⟨la, lb, lc⟩ := sm l (List.mem_of_getElem? hl')
    have m1 : CMl l.a n := cml 10 10 (by omega) (by omega)
    have wa := w_ab (l := l) (r := n) (by omega) (by omega) hn
    have ez : zneg (L.take (i + 1)) n = (zneg (L.take i) n || decide (l.b = 0 ∧ l.w n < 0)) := by unfold zneg; rw [List.take_add_one, hl']; simp
    have zt : l.b = 0 ∧ l.w n < 0 → zneg L n = true := fun q => List.any_eq_true.mpr ⟨l, List.mem_of_getElem? hl', decide_eq_true q⟩
    have lt : (L.take i).length ≤ 10 := by rw [List.length_take]; omega
    have z2 : (leL (L.take i) n).length < sizeLine := Nat.lt_of_lt_of_le (show _ < 21 by have := le_len (L := L.take i) (n := n); omega) (le_size (by decide))
    have z3 : (moL (L.take i) n).length < sizeLine := Nat.lt_of_lt_of_le (show _ < 21 by have := mo_len (L := L.take i) (n := n); omega) (le_size (by decide))
    rw [ez, hz, le_take hl', mo_take hl', List.map_append, List.map_append]
    unfold Ln.d
    unfold Ln.w at *
    simp [dMul_int m1, dAdd_int, fdEq_int, dLt_int, dGt_int]
    rcases Int.lt_trichotomy l.b 0 with hb | hb | hb
    · have n1 : ¬ l.b = 0 := by omega
      have n2 : ¬ 0 < l.b := by omega
      have d1 := dDiv_int (dvi (i := l.a * n + l.c) (j := 0 - l.b) (by omega) (by omega))
      rw [fdiv_pos (show 0 < 0 - l.b by omega)] at d1
      simp [hb, n1, n2, dSub_int]
      rw [Int.zero_sub] at d1
      simp [d1, z3]
    · by_cases hw : l.a * n + l.c < 0
      · have := zt ⟨hb, hw⟩
        unfold bdD
        rw [this]
        simp [hb, hw]
      · rw [hb]
        simp [hb, hw]
        omega
    · have n1 : ¬ l.b = 0 := by omega
      have n2 : ¬ l.b < 0 := by omega
      have d1 := dDiv_int (dvi (i := l.a * n + l.c) (j := l.b) (by omega) (by omega))
      rw [fdiv_pos hb] at d1
      simp [hb, n1, n2, dSub_int, d1, z2]
  · rintro ρ cs' ⟨rfl, hz, v4, v5, v6, v7, rfl⟩
    have e : L.take (0 + (L.map Ln.d).length) = L := by rw [List.length_map, Nat.zero_add]; exact List.take_length
    rw [e] at hz ⊢
    unfold bndB at hb
    obtain ⟨b1, b2⟩ := Bool.and_eq_true_iff.mp hb
    obtain ⟨l1, hl1, hb1⟩ := List.any_eq_true.mp b1
    obtain ⟨l2, hl2, hb2⟩ := List.any_eq_true.mp b2
    have ne1 : leL L n ≠ [] := fun z => by
      have : (0 - l1.w n / l1.b) ∈ leL L n := List.mem_map.mpr ⟨l1, List.mem_filter.mpr ⟨hl1, hb1⟩, rfl⟩
      rw [z] at this
      cases this
    have ne2 : moL L n ≠ [] := fun z => by
      have : (l2.w n / (0 - l2.b)) ∈ moL L n := List.mem_map.mpr ⟨l2, List.mem_filter.mpr ⟨hl2, hb2⟩, rfl⟩
      rw [z] at this
      cases this
    unfold bdD
    rw [hz, mx_of ne1, mn_of ne2]
    have a1 := dMaxL_int ne1
    have a2 := dMinL_int ne2
    generalize leL L n = A at *
    generalize moL L n = B at *
    have r1 : rd (.own cs.length) (cs ++ [some (A.map .int), some (B.map .int)]) = some (.list (A.map .int)) := by
      unfold rd
      simp
    have r2 : rd (.own (cs.length + 1)) (cs ++ [some (A.map .int), some (B.map .int)]) = some (.list (B.map .int)) := by
      unfold rd
      simp
    simp [r1, r2, a1, a2, dLe_int]
    by_cases hab : maxI A ≤ minI B
    · simp [hab, two, r1, r2, a1, a2]
    · simp [hab]
      omega
end My
namespace My
open PySem PySem.Spec PyProof.Rows L2 DL
def lv (n k : Int) : D → Int
  | .tuple [.int a, .int b, .int c] => a * n + b * k + c
  | _ => 0
theorem lv_line {f : Fc} {n k : Int} : lv n k f.line = f.m n k := rfl
theorem anyB {l : List D} {P : D → Bool} (hl : l.length ≤ sizeLine) : dAny [.list (l.map fun d => .bool (P d))] = some (db (l.any P)) := by
  have ok : allOk (l.map fun d => PyData.bool (P d)) = true := by
    have := allok_b (l := l.map P)
    rwa [List.map_map] at this
  show (if allOk (l.map fun d => PyData.bool (P d)) = true then some (db ((l.map fun d => PyData.bool (P d)).any PyData.truthy)) else none) = _
  rw [if_pos ok, List.any_map]
  rfl
def cutB (fs : List Fc) (n k : Int) : Bool := fs.any fun f => pk (-1) f && decide (f.m n k < 0)
def thereB (fs : List Fc) (n k : Int) : Bool := fs.all fun f => !pk 1 f || decide (0 ≤ f.m n k)
theorem flen {fs : List Fc} {E : Int} (h : Fcs fs) : ((fs.filter (pk E)).map Fc.line).length ≤ 10 := by
  rw [List.length_map]
  exact Nat.le_trans (List.length_filter_le _ _) h.1
theorem fok {fs : List Fc} {E : Int} (h : Fcs fs) {d : D} (hd : d ∈ (fs.filter (pk E)).map Fc.line) : ∃ f, f ∈ fs ∧ pk E f = true ∧ d = f.line ∧ f.Ok := by
  obtain ⟨f, hf, rfl⟩ := List.mem_map.mp hd
  obtain ⟨h1, h2⟩ := List.mem_filter.mp hf
  exact ⟨f, h1, h2, rfl, h.2 f h1⟩
theorem cut_eq {fs : List Fc} {n k : Int} {cs : Cs} (h : Fcs fs) (z : Nk n k) : m_is_cut [.dat (dOf fs), .dat (.int n), .dat (.int k)] cs = some (db (cutB fs n k), cs) := by
  refine em_eq ?_
  unfold m_is_cut
  rw [em_fnM]
  unfold b_is_cut
  simp [dNeg_int]
  refine em_of (wl_eq h) ?_
  simp
  have hl := flen (E := -1) h
  refine ec_pure (fun _ => true) (fun l => .bool (decide (lv n k l < 0))) (fun x hx cs' => ?_) (le_size (by simp at hl ⊢; omega)) ?_
  · obtain ⟨f, _, _, rfl, ho⟩ := fok h hx
    simp [wipeR]
    refine em_of (lw_eq ho z) ?_
    simp [dLt_int, lv_line]
    exact decide_eq_decide.mpr Iff.rfl
  · rw [List.nil_append, List.filter_eq_self.mpr (fun _ _ => rfl), anyB (le_size (by simp at hl ⊢; omega)), List.any_map]
    simp
    rfl
theorem there_eq {fs : List Fc} {n k : Int} {cs : Cs} (h : Fcs fs) (z : Nk n k) : m_is_there [.dat (dOf fs), .dat (.int n), .dat (.int k)] cs = some (db (thereB fs n k), cs) := by
  refine em_eq ?_
  unfold m_is_there
  rw [em_fnM]
  unfold b_is_there
  simp
  refine em_of (wl_eq h) ?_
  simp
  have hl := flen (E := 1) h
  refine ec_pure (fun _ => true) (fun l => .bool (decide (0 ≤ lv n k l))) (fun x hx cs' => ?_) (le_size (by simp at hl ⊢; omega)) ?_
  · obtain ⟨f, _, _, rfl, ho⟩ := fok h hx
    simp [wipeR]
    refine em_of (lw_eq ho z) ?_
    simp [dGe_int, lv_line]
    exact decide_eq_decide.mpr Iff.rfl
  · rw [List.nil_append, List.filter_eq_self.mpr (fun _ _ => rfl), allB (le_size (by simp at hl ⊢; omega)), List.all_map]
    simp
    rfl
/-! the products -/
def pr (n k : Int) (f : Fc) : Int × Int := if f.e = 1 then rp f.p f.q (f.m n k) (f.m n k).natAbs else ((rp f.p f.q (f.m n k) (f.m n k).natAbs).2, (rp f.p f.q (f.m n k) (f.m n k).natAbs).1)
def stp (n k : Int) (t : Int × Int) (f : Fc) : Int × Int := (t.1 * (pr n k f).1, t.2 * (pr n k f).2)
def prod (n k : Int) (fs : List Fc) : Int × Int := fs.foldl (stp n k) (1, 1)
theorem pr_b {f : Fc} {n k : Int} (h : f.Ok) (z : Nk n k) : (pr n k f).1.natAbs < 2 ^ 661 ∧ (pr n k f).2.natAbs < 2 ^ 661 := by
  have hm := h.m z
  obtain ⟨b1, b2⟩ := rp_b (m := f.m n k) h.rs (n := (f.m n k).natAbs) hm
  have b1 := pow_le b1 (b := 661) (by omega)
  have b2 := pow_le b2 (b := 661) (by omega)
  unfold pr
  split
  · exact ⟨b1, b2⟩
  · exact ⟨b2, b1⟩
theorem stp_b {n k : Int} (z : Nk n k) : ∀ {fs : List Fc} {t : Int × Int} {s : Nat}, (∀ f ∈ fs, f.Ok) → t.1.natAbs < 2 ^ s → t.2.natAbs < 2 ^ s → (fs.foldl (stp n k) t).1.natAbs < 2 ^ (s + 661 * fs.length) ∧ (fs.foldl (stp n k) t).2.natAbs < 2 ^ (s + 661 * fs.length)
  | [], t, s, _, h1, h2 => ⟨h1, h2⟩
  | f :: r, t, s, ho, h1, h2 => by
    obtain ⟨p1, p2⟩ := pr_b (ho f (List.mem_cons_self ..)) z
    have := stp_b z (fs := r) (t := stp n k t f) (s := s + 661) (fun g hg => ho g (List.mem_cons_of_mem _ hg)) (lg_mul h1 p1) (lg_mul h2 p2)
    rw [List.foldl_cons, List.length_cons, show s + 661 * (r.length + 1) = s + 661 + 661 * r.length by omega]
    exact this
theorem prod_b {fs : List Fc} {n k : Int} (h : Fcs fs) (z : Nk n k) : (prod n k fs).1.natAbs < 2 ^ 6620 ∧ (prod n k fs).2.natAbs < 2 ^ 6620 := by
  obtain ⟨h1, h2⟩ := stp_b z (t := (1, 1)) (s := 1) h.2 (by decide) (by decide)
  have := h.1
  exact ⟨pow_le h1 (by omega), pow_le h2 (by omega)⟩
theorem take_b {fs : List Fc} {n k : Int} (h : Fcs fs) (z : Nk n k) (i : Nat) : (prod n k (fs.take i)).1.natAbs < 2 ^ 6620 ∧ (prod n k (fs.take i)).2.natAbs < 2 ^ 6620 :=
  prod_b ⟨by have := h.1; rw [List.length_take]; omega, fun f hf => h.2 f (List.mem_of_mem_take hf)⟩ z
theorem prod_take {fs : List Fc} {n k : Int} {i : Nat} {f : Fc} (h : fs[i]? = some f) : prod n k (fs.take (i + 1)) = stp n k (prod n k (fs.take i)) f := by
  unfold prod
  rw [List.take_add_one, h]
  simp
theorem fw_eq {fs : List Fc} {n k : Int} {cs : Cs} (h : Fcs fs) (z : Nk n k) : m_factors_worth [.dat (dOf fs), .dat (.int n), .dat (.int k)] cs = some (.dat (.tuple [.int (prod n k fs).1, .int (prod n k fs).2]), cs) := by
  refine em_eq ?_
  unfold m_factors_worth
  rw [em_fnM]
  unfold b_factors_worth dOf
  have two : 2 ≤ sizeLine := two_fit
  simp [two]
  refine el_inv (k := 0) (fun i ρ cs' => cs' = cs ∧ ∃ v5 v6 v7 v8 v9, ρ = [some (.dat (.list (fs.map Fc.d))), some (.dat (.int n)), some (.dat (.int k)), some (di (prod n k (fs.take i)).1), some (di (prod n k (fs.take i)).2), v5, v6, v7, v8, v9]) ⟨rfl, none, none, none, none, none, rfl⟩ ?_ ?_
  · rintro i d ρ cs' hd ⟨rfl, v5, v6, v7, v8, v9, rfl⟩
    rw [Nat.zero_add] at *
    rw [List.getElem?_map] at hd
    obtain ⟨f, hf, rfl⟩ := Option.map_eq_some_iff.mp hd
    have ho := h.2 f (List.mem_of_getElem? hf)
    have hm := ho.m z
    obtain ⟨t1, t2⟩ := take_b h z i
    obtain ⟨b1, b2⟩ := rp_b (m := f.m n k) ho.rs (n := (f.m n k).natAbs) hm
    have b1 := pow_le b1 (b := 661) (by omega)
    have b2 := pow_le b2 (b := 661) (by omega)
    rw [prod_take hf]
    unfold Fc.d
    simp
    refine em_of (lw_eq ho z) ?_
    simp
    refine em_of (parts_eq ho.rs hm) ?_
    simp [fdEq_int, two]
    unfold stp pr
    generalize prod n k (fs.take i) = t at t1 t2 ⊢
    generalize rp f.p f.q (f.m n k) (f.m n k).natAbs = r at b1 b2 ⊢
    by_cases he : f.e = 1
    · simp [he, dMul_int (cml 6620 661 t1 b1), dMul_int (cml 6620 661 t2 b2), two]
    · simp [he, dMul_int (cml 6620 661 t1 b2), dMul_int (cml 6620 661 t2 b1), two]
  · rintro ρ cs' ⟨rfl, v5, v6, v7, v8, v9, rfl⟩
    have e : fs.take (0 + (fs.map Fc.d).length) = fs := by
      rw [List.length_map, Nat.zero_add]
      exact List.take_length
    rw [e]
    simp [two]
/-! the law's own -/
theorem rp_nzA {p q m : Int} (h : RS p q) : ∀ {n : Nat}, (rp p q m n).1 ≠ 0
  | 0 => by show (1 : Int) ≠ 0; decide
  | n + 1 => by
    have ih := rp_nzA h (m := m) (n := n)
    have h1 := h.p0
    have h2 := h.le
    unfold rp
    split
    · refine Int.mul_ne_zero ih ?_
      have : 0 ≤ (n : Int) * q := Int.mul_nonneg (by omega) (by omega)
      omega
    · exact Int.mul_ne_zero ih h.qn
theorem nf_swap {a b : Int} (ha : a ≠ 0) (hb : b ≠ 0) : nfA (nfB a b) (nfA a b) = nfA b a ∧ nfB (nfB a b) (nfA a b) = nfB b a := by
  obtain ⟨g, hg, e1, e2⟩ := nf_split (a := a) hb
  have hA : nfA a b ≠ 0 := fun z => by rw [z, Int.zero_mul] at e1; exact ha e1
  have e := nf_mul' (a := nfB a b) (b := nfA a b) (k := g) hg hA
  rw [← e1, ← e2] at e
  exact ⟨e.1.symm, e.2.symm⟩
theorem rpV_N {p q m : Int} (h : isOne p q = true) (hm : m < 0) : rpV p q m = .none := by
  unfold rpV
  rw [h, decide_eq_true hm]
  rfl
theorem rpV_S {p q m : Int} (h : ¬ (isOne p q = true ∧ m < 0)) : rpV p q m = .tuple [.int (nfA (rp p q m m.natAbs).1 (rp p q m m.natAbs).2), .int (nfB (rp p q m m.natAbs).1 (rp p q m m.natAbs).2)] := by
  unfold rpV
  rw [if_neg]
  intro z
  rw [Bool.and_eq_true, decide_eq_true_iff] at z
  exact h z
def bad (n k : Int) (f : Fc) : Bool := f.one && decide (f.m n k < 0)
def fr2 (t : Int × Int) : D := .tuple [.int (nfA t.1 t.2), .int (nfB t.1 t.2)]
theorem pr_nz {f : Fc} {n k : Int} (h : f.Ok) (hb : bad n k f = false) : (pr n k f).1 ≠ 0 ∧ (pr n k f).2 ≠ 0 := by
  have ho : f.m n k < 0 → isOne f.p f.q = false := fun z => by
    unfold bad Fc.one at hb
    rw [decide_eq_true z, Bool.and_true] at hb
    exact hb
  have h1 := rp_nzA h.rs (m := f.m n k) (n := (f.m n k).natAbs)
  have h2 := rp_nz h.rs ho (n := (f.m n k).natAbs)
  unfold pr
  split
  · exact ⟨h1, h2⟩
  · exact ⟨h2, h1⟩
theorem prod_nz {n k : Int} : ∀ {fs : List Fc} {t : Int × Int}, (∀ f ∈ fs, f.Ok) → (∀ f ∈ fs, bad n k f = false) → t.2 ≠ 0 → (fs.foldl (stp n k) t).2 ≠ 0
  | [], t, _, _, h => h
  | f :: r, t, ho, hb, h => by
    rw [List.foldl_cons]
    exact prod_nz (fun g hg => ho g (List.mem_cons_of_mem _ hg)) (fun g hg => hb g (List.mem_cons_of_mem _ hg)) (Int.mul_ne_zero h (pr_nz (ho f (List.mem_cons_self ..)) (hb f (List.mem_cons_self ..))).2)
end My
namespace My
open PySem PySem.Spec PyProof.Rows L2 DL
theorem cut_iff {fs : List Fc} {n k : Int} : cutB fs n k = true ↔ ∃ l ∈ lnE fs (-1), l.a * n + l.b * k + l.c < 0 := by
  unfold cutB lnE
  rw [List.any_eq_true]
  constructor
  · rintro ⟨f, hf, h⟩
    obtain ⟨h1, h2⟩ := Bool.and_eq_true_iff.mp h
    exact ⟨f.ln, List.mem_map.mpr ⟨f, List.mem_filter.mpr ⟨hf, h1⟩, rfl⟩, of_decide_eq_true h2⟩
  · rintro ⟨l, hl, h⟩
    obtain ⟨f, hf, rfl⟩ := List.mem_map.mp hl
    obtain ⟨hf, h1⟩ := List.mem_filter.mp hf
    exact ⟨f, hf, Bool.and_eq_true_iff.mpr ⟨h1, decide_eq_true h⟩⟩
theorem cut_lo {l : Ln} {n k : Int} (hb : 0 < l.b) (h : k < 0 - l.w n / l.b) : l.a * n + l.b * k + l.c < 0 := by
  have h1 : l.w n / l.b < -k := by omega
  have h2 := (Int.ediv_lt_iff_lt_mul hb).mp h1
  unfold Ln.w at h2
  have : -k * l.b = - (l.b * k) := by rw [Int.neg_mul, Int.mul_comm]
  omega
theorem cut_hi {l : Ln} {n k : Int} (hb : l.b < 0) (h : l.w n / (0 - l.b) < k) : l.a * n + l.b * k + l.c < 0 := by
  have h2 := (Int.ediv_lt_iff_lt_mul (show 0 < 0 - l.b by omega)).mp h
  unfold Ln.w at h2
  have : k * (0 - l.b) = - (l.b * k) := by rw [Int.zero_sub, Int.mul_neg, Int.mul_comm]
  omega
theorem bnd_ex {V : List Ln} (h : bndB V = true) : (∃ l ∈ V, 0 < l.b) ∧ ∃ l ∈ V, l.b < 0 := by
  obtain ⟨b1, b2⟩ := Bool.and_eq_true_iff.mp h
  obtain ⟨l1, hl1, hb1⟩ := List.any_eq_true.mp b1
  obtain ⟨l2, hl2, hb2⟩ := List.any_eq_true.mp b2
  exact ⟨⟨l1, hl1, of_decide_eq_true hb1⟩, l2, hl2, of_decide_eq_true hb2⟩
theorem mx_some {V : List Ln} {n : Int} (h : ∃ l ∈ V, 0 < l.b) : ∃ a, mxO V n = some a ∧ ∃ l ∈ V, 0 < l.b ∧ a = 0 - l.w n / l.b := by
  obtain ⟨h1, h2⟩ := mx_fold (n := n) (L := V) (o := none)
  have e : V.foldl (mxL n) none = mxO V n := rfl
  rw [e] at h1 h2
  cases hx : mxO V n with
  | none =>
    obtain ⟨l, hl, hb⟩ := h
    exact absurd hb ((h1.mp hx).2 l hl)
  | some a =>
    obtain ⟨p1, _, _⟩ := h2 a hx
    rcases p1 with p1 | p1
    · cases p1
    · exact ⟨a, rfl, p1⟩
theorem mn_some {V : List Ln} {n : Int} (h : ∃ l ∈ V, l.b < 0) : ∃ a, mnO V n = some a ∧ ∃ l ∈ V, l.b < 0 ∧ a = l.w n / (0 - l.b) := by
  obtain ⟨h1, h2⟩ := mn_fold (n := n) (L := V) (o := none)
  have e : V.foldl (mnL n) none = mnO V n := rfl
  rw [e] at h1 h2
  cases hx : mnO V n with
  | none =>
    obtain ⟨l, hl, hb⟩ := h
    exact absurd hb ((h1.mp hx).2 l hl)
  | some a =>
    obtain ⟨p1, _, _⟩ := h2 a hx
    rcases p1 with p1 | p1
    · cases p1
    · exact ⟨a, rfl, p1⟩
/-- what the law's span and the program's bounds say of a bounded one -/
theorem bd_cases {fs : List Fc} {n : Int} (h : Fcs fs) (hb : bndB (lnE fs (-1)) = true) (hn : n.natAbs ≤ 300) :
    (∃ a b : Int, spanD (lnE fs (-1)) n = .tuple [.int a, .int b] ∧ a > b ∧ bdD (lnE fs (-1)) n = .none ∧ ∀ k, cutB fs n k = true) ∨
    (∃ a b : Int, spanD (lnE fs (-1)) n = .tuple [.int a, .int b] ∧ a ≤ b ∧ bdD (lnE fs (-1)) n = .tuple [.int a, .int b] ∧ cutB fs n (a - 1) = true ∧ cutB fs n (b + 1) = true ∧ a.natAbs ≤ 910 ∧ b.natAbs ≤ 910) := by
  obtain ⟨e1, e2⟩ := bnd_ex hb
  obtain ⟨a, ha, l, hl, lb, ea⟩ := mx_some (n := n) e1
  obtain ⟨b, hb', m, hm, mb, eb⟩ := mn_some (n := n) e2
  unfold spanD bdD
  rw [ha, hb']
  cases hz : zneg (lnE fs (-1)) n with
  | true =>
    left
    obtain ⟨z, hz1, hz2⟩ := List.any_eq_true.mp hz
    obtain ⟨hz2, hz3⟩ := of_decide_eq_true hz2
    refine ⟨1, 0, rfl, by decide, rfl, fun k => cut_iff.mpr ⟨z, hz1, ?_⟩⟩
    rw [hz2, Int.zero_mul]
    unfold Ln.w at hz3
    omega
  | false =>
    have c1 : ∀ k, k < a → cutB fs n k = true := fun k hk => cut_iff.mpr ⟨l, hl, cut_lo lb (by omega)⟩
    have c2 : ∀ k, b < k → cutB fs n k = true := fun k hk => cut_iff.mpr ⟨m, hm, cut_hi mb (by omega)⟩
    rcases Int.lt_or_le b a with hab | hab
    · left
      refine ⟨a, b, rfl, hab, ?_, fun k => ?_⟩
      · show (if a ≤ b then _ else _) = _
        rw [if_neg (by omega)]
      · rcases Int.lt_or_le k a with z | z
        · exact c1 k z
        · exact c2 k (by omega)
    · right
      refine ⟨a, b, rfl, hab, ?_, c1 _ (by omega), c2 _ (by omega), ?_, ?_⟩
      · show (if a ≤ b then _ else _) = _
        rw [if_pos hab]
      · obtain ⟨la, _, lc⟩ := lnE_ok h hl
        have w1 := mul_nat la hn
        have w2 := div_ab (x := l.w n) lb
        have w3 : (l.w n).natAbs ≤ 903 := by
          unfold Ln.w
          generalize l.a * n = x at w1
          omega
        omega
      · obtain ⟨la, _, lc⟩ := lnE_ok h hm
        have w1 := mul_nat la hn
        have w2 := div_ab (x := m.w n) (show 0 < 0 - m.b by omega)
        have w3 : (m.w n).natAbs ≤ 903 := by
          unfold Ln.w
          generalize m.a * n = x at w1
          omega
        omega
/-- far k's are cut -/
theorem far_cut {fs : List Fc} {k : Int} (h : Fcs fs) (hb : bndB (lnE fs (-1)) = true) : cutB fs 12 k = true ∨ k.natAbs ≤ 39 := by
  obtain ⟨⟨l, hl, lb⟩, m, hm, mb⟩ := bnd_ex hb
  rcases Nat.lt_or_ge 39 k.natAbs with z | z
  · left
    obtain ⟨la, lb3, lc⟩ := lnE_ok h hl
    obtain ⟨ma, mb3, mc⟩ := lnE_ok h hm
    rcases Int.lt_or_le k 0 with hk | hk
    · refine cut_iff.mpr ⟨l, hl, ?_⟩
      have : l.b * k ≤ 1 * k := Int.mul_le_mul_of_nonpos_right (by omega) (by omega)
      omega
    · refine cut_iff.mpr ⟨m, hm, ?_⟩
      have : m.b * k ≤ (-1) * k := Int.mul_le_mul_of_nonneg_right (by omega) hk
      omega
  · exact .inr z
end My
namespace My
open PySem PySem.Spec PyProof.Rows L2 DL
theorem ltimes2 {p1 q1 p2 q2 : Int} {a b : Nat} {cs : Cs} (h1 : p1.natAbs < 2 ^ a) (h2 : q1.natAbs < 2 ^ a) (h3 : p2.natAbs < 2 ^ b) (h4 : q2.natAbs < 2 ^ b) (hq1 : q1 ≠ 0) (hq2 : q2 ≠ 0) (hn : a + b ≤ 8000) :
    m__law_times [.dat (.tuple [.int p1, .int q1]), .dat (.tuple [.int p2, .int q2])] cs = some (.dat (.tuple [.int (nfA (p1 * p2) (q1 * q2)), .int (nfB (p1 * p2) (q1 * q2))]), cs) := by
  refine em_eq ?_
  unfold m__law_times
  rw [em_fnM]
  unfold b__law_times
  simp [dIx_t0, dIx_t1, dMul_int (cml a b h1 h3 (by omega)), dMul_int (cml a b h2 h4 (by omega))]
  refine em_of (llow_eq (Int.mul_ne_zero hq1 hq2) (pow_le (lg_mul h1 h3) hn) (pow_le (lg_mul h2 h4) hn)) ?_
  simp
/-- times of two that stand in lowest terms -/
theorem ltimes_fr {s t : Int × Int} {a b : Nat} {cs : Cs} (h1 : s.1.natAbs < 2 ^ a) (h2 : s.2.natAbs < 2 ^ a) (h3 : t.1.natAbs < 2 ^ b) (h4 : t.2.natAbs < 2 ^ b) (n1 : s.2 ≠ 0) (n2 : t.2 ≠ 0) (hn : a + b ≤ 8000) :
    m__law_times [.dat (fr2 s), .dat (fr2 t)] cs = some (.dat (fr2 (s.1 * t.1, s.2 * t.2)), cs) := by
  unfold fr2
  have b1 := nfB_pos (a := s.1) n1
  have b2 := nfB_pos (a := t.1) n2
  rw [ltimes2 (a := a) (b := b) (Nat.lt_of_le_of_lt nfA_le h1) (Nat.lt_of_le_of_lt (nfB_le n1) h2) (Nat.lt_of_le_of_lt nfA_le h3) (Nat.lt_of_le_of_lt (nfB_le n2) h4) (by omega) (by omega) hn, (nf_two n1 n2).1, (nf_two n1 n2).2]
theorem dIs_none {d : D} : dIs id d .none = some (db (isNonD d)) := by cases d <;> rfl
theorem lines_plain {fs : List Fc} : PyData.plainAll (fs.map Fc.line) = true := plain_all.mpr fun d hd => by
  obtain ⟨f, _, rfl⟩ := List.mem_map.mp hd
  rfl
theorem cutB_filter {fs : List Fc} {n k : Int} : (((fs.filter (pk (-1))).map Fc.line).filter fun l => decide (lv n k l < 0)).isEmpty = !cutB fs n k := by
  unfold cutB
  induction fs with
  | nil => rfl
  | cons f r ih =>
    rw [List.filter_cons, List.any_cons]
    cases h : pk (-1) f with
    | false => simp; simpa using ih
    | true =>
      rw [if_pos rfl, List.map_cons, List.filter_cons, lv_line]
      by_cases hm : f.m n k < 0
      · simp [hm]
      · simp [hm]
        simpa using ih
theorem lfw_eq {fs : List Fc} {n k : Int} {cs : Cs} (h : Fcs fs) (z : Nk n k) : m__law_factors_worth [.dat (dOf fs), .dat (.int n), .dat (.int k)] cs = some (.dat (if cutB fs n k = true then .tuple [.int 0, .int 1] else if fs.any (bad n k) = true then .none else fr2 (prod n k fs)), cs) := by
  refine em_eq ?_
  unfold m__law_factors_worth
  rw [em_fnM]
  unfold b__law_factors_worth
  have two : 2 ≤ sizeLine := two_fit
  simp [dSub_int]
  refine em_of (lwl_eq h) ?_
  simp
  have hl := flen (E := -1) h
  refine ec_pure (fun l => decide (lv n k l < 0)) id (fun x hx cs' => ?_) (le_size (by simp at hl ⊢; omega)) ?_
  · obtain ⟨f, _, _, rfl, ho⟩ := fok h hx
    simp [wipeR]
    refine em_of (llw_eq ho z) ?_
    simp [dLt_int, lv_line]
    exact decide_eq_decide.mpr Iff.rfl
  · rw [List.nil_append, List.map_id, dNe_nil (plain_filter lines_plain), cutB_filter]
    cases hc : cutB fs n k with
    | true => simp [two]
    | false =>
      simp [two]
      unfold dOf
      simp
      have done : ∀ Q : Out → Prop, (fs.any (bad n k) = true → Q (.rt (.dat .none) cs)) → (fs.any (bad n k) = false → Q (.rt (.dat (fr2 (prod n k fs))) cs)) →
          El (gTp 3 (gsCons (gNm 4) (gsCons (gNm 5) (gsCons (gNm 6) gsNil)))) (sSeq (sSet 7 (mCallF 2 m__law_rising (aCons (xVar 4) (aCons (mCallF 3 m__law_line (aCons (xVar 5) (aCons (xVar 1) (aCons (xVar 2) aNil)))) aNil))))
            (sSeq (sIf (mTB (mB (dIs id) (xVar 7) (xC .none))) (sRet (xC .none)) sNil)
            (sSet 3 (mCallF 2 m__law_times (aCons (xVar 3) (aCons (mIf (mTB (mB dEq (xVar 6) (xC (.int 1)))) (xVar 7) (mCallF 2 m__law_low (aCons (mB dIx (xVar 7) (xC (.int 1))) (aCons (mB dIx (xVar 7) (xC (.int 0))) aNil)))) aNil))))))
            cs.length (fs.map Fc.d) [some (.dat (.list (fs.map Fc.d))), some (.dat (.int n)), some (.dat (.int k)), some (.dat (.tuple [.int 1, .int 1])), none, none, none, none] cs (Nx cs.length (sRet (xVar 3)) Q) := by
        intro Q hN hS
        refine el_inv (k := 0) (fun i ρ cs' => cs' = cs ∧ (∀ f ∈ fs.take i, bad n k f = false) ∧ ∃ v4 v5 v6 v7, ρ = [some (.dat (.list (fs.map Fc.d))), some (.dat (.int n)), some (.dat (.int k)), some (.dat (fr2 (prod n k (fs.take i)))), v4, v5, v6, v7]) ⟨rfl, by simp, none, none, none, none, by
          have e := nf_of (p := 1) (q := 1) (by decide) (by decide)
          show _ = [_, _, _, some (Rv.dat (.tuple [.int (nfA 1 1), .int (nfB 1 1)])), _, _, _, _]
          rw [e.1, e.2]⟩ ?_ ?_
        · rintro i d ρ cs' hd ⟨rfl, hb, v4, v5, v6, v7, rfl⟩
          rw [Nat.zero_add] at *
          rw [List.getElem?_map] at hd
          obtain ⟨f, hf, rfl⟩ := Option.map_eq_some_iff.mp hd
          have hfm := List.mem_of_getElem? hf
          have ho := h.2 f hfm
          have hm := ho.m z
          unfold Fc.d
          simp
          refine em_of (llw_eq ho z) ?_
          simp
          refine em_of (lrising_eq ho.rs hm) ?_
          simp [dIs_none]
          by_cases hbad : isOne f.p f.q = true ∧ f.m n k < 0
          · rw [rpV_N hbad.1 hbad.2]
            simp [isNonD]
            refine hN (List.any_eq_true.mpr ⟨f, hfm, ?_⟩)
            unfold bad Fc.one
            rw [hbad.1, decide_eq_true hbad.2]
            rfl
          · have hb1 : bad n k f = false := by
              unfold bad Fc.one
              rw [Bool.eq_false_iff]
              intro q
              rw [Bool.and_eq_true, decide_eq_true_iff] at q
              exact hbad q
            rw [rpV_S hbad]
            simp [isNonD, fdEq_int]
            obtain ⟨t1, t2⟩ := take_b h z i
            have tn2 : (prod n k (fs.take i)).2 ≠ 0 := prod_nz (fun g hg => h.2 g (List.mem_of_mem_take hg)) hb (by decide)
            obtain ⟨p1, p2⟩ := pr_b ho z
            obtain ⟨n1, n2⟩ := pr_nz ho hb1
            have inv : ∀ f' ∈ fs.take (i + 1), bad n k f' = false := fun f' hf' => by
              rw [List.take_add_one, hf] at hf'
              rcases List.mem_append.mp hf' with q | q
              · exact hb f' q
              · simp at q
                subst q
                exact hb1
            have step := ltimes_fr (cs := cs') t1 t2 p1 p2 tn2 n2 (by decide)
            have e3 : (prod n k (fs.take i)).1 * (pr n k f).1 = (stp n k (prod n k (fs.take i)) f).1 := rfl
            have e4 : (prod n k (fs.take i)).2 * (pr n k f).2 = (stp n k (prod n k (fs.take i)) f).2 := rfl
            rw [e3, e4, ← prod_take hf] at step
            by_cases he : f.e = 1
            · have ep : pr n k f = rp f.p f.q (f.m n k) (f.m n k).natAbs := by unfold pr; rw [if_pos he]
              simp [he]
              rw [← ep]
              refine em_of step ?_
              simp
              exact inv
            · have ep : pr n k f = ((rp f.p f.q (f.m n k) (f.m n k).natAbs).2, (rp f.p f.q (f.m n k) (f.m n k).natAbs).1) := by unfold pr; rw [if_neg he]
              have ep1 : (rp f.p f.q (f.m n k) (f.m n k).natAbs).1 = (pr n k f).2 := by rw [ep]
              have ep2 : (rp f.p f.q (f.m n k) (f.m n k).natAbs).2 = (pr n k f).1 := by rw [ep]
              simp [he, dIx_t0, dIx_t1]
              rw [ep1, ep2]
              have z1 := nfB_pos (a := (pr n k f).2) n1
              have hA : nfA (pr n k f).2 (pr n k f).1 ≠ 0 := fun q => by
                obtain ⟨g, hg, e1, e2⟩ := nf_split (a := (pr n k f).2) n1
                rw [q, Int.zero_mul] at e1
                exact n2 e1
              refine em_of (llow_eq hA (pow_le (Nat.lt_of_le_of_lt (nfB_le n1) p1) (by decide)) (pow_le (Nat.lt_of_le_of_lt nfA_le p2) (by decide))) ?_
              rw [(nf_swap n2 n1).1, (nf_swap n2 n1).2]
              simp
              refine em_of step ?_
              simp
              exact inv
        · rintro ρ cs' ⟨rfl, hb, v4, v5, v6, v7, rfl⟩
          have e : fs.take (0 + (fs.map Fc.d).length) = fs := by
            rw [List.length_map, Nat.zero_add]
            exact List.take_length
          rw [e] at hb ⊢
          simp
          refine hS (List.any_eq_false.mpr fun f hf => ?_)
          rw [hb f hf]
          decide
      refine done _ (fun hn => ?_) (fun hs => ?_)
      · simp at hn
        simp
        intro q
        obtain ⟨f, h1, h2⟩ := hn
        have := q f h1
        rw [h2] at this
        cases this
      · simp at hs
        simp
        intro f hf hq
        rw [hs f hf] at hq
        cases hq
end My
namespace My
open PySem PySem.Spec PyProof.Rows L2 DL
/-! polys' worths, powers -/
def hv (x : Int) : List Int → Int
  | [] => 0
  | c :: r => hv x r * x + c
theorem hv_app0 {x : Int} : ∀ {l z : List Int}, (∀ c ∈ z, c = 0) → hv x (l ++ z) = hv x l
  | [], z, h => by
    rw [List.nil_append]
    induction z with
    | nil => rfl
    | cons c r ih =>
      show hv x r * x + c = 0
      rw [ih fun d hd => h d (List.mem_cons_of_mem _ hd), h c (List.mem_cons_self ..)]
      simp [hv]
  | c :: l, z, h => by
    show hv x (l ++ z) * x + c = hv x l * x + c
    rw [hv_app0 h]
theorem hv_b {x : Int} {B : Nat} (hx : x.natAbs ≤ 16) (hB : 4 ≤ B) : ∀ {l : List Int}, (∀ c ∈ l, c.natAbs < 2 ^ B) → (hv x l).natAbs < 2 ^ (B + 5 * l.length)
  | [], _ => by
    show (0 : Int).natAbs < _
    exact Nat.lt_of_lt_of_le (by decide) (Nat.one_le_two_pow)
  | c :: r, h => by
    have ih := hv_b hx hB (l := r) fun d hd => h d (List.mem_cons_of_mem _ hd)
    have hc := pow_le (h c (List.mem_cons_self ..)) (show B ≤ B + 5 * r.length + 4 by omega)
    have hm : (hv x r * x).natAbs < 2 ^ (B + 5 * r.length + 4) := by
      rw [Int.natAbs_mul, Nat.pow_add]
      calc (hv x r).natAbs * x.natAbs ≤ (hv x r).natAbs * 16 := Nat.mul_le_mul_left _ hx
        _ < 2 ^ (B + 5 * r.length) * 2 ^ 4 := Nat.mul_lt_mul_of_pos_right ih (by decide)
    have := lg_add hm hc
    show (hv x r * x + c).natAbs < 2 ^ (B + 5 * (r.length + 1))
    rw [show B + 5 * (r.length + 1) = B + 5 * r.length + 4 + 1 by omega]
    exact this
def iL (l : List Int) : D := .list (l.map .int)
theorem rev_take {l : List Int} {i : Nat} {c : Int} (h : l.reverse[i]? = some c) : hv x (l.reverse.take (i + 1)).reverse = hv x (l.reverse.take i).reverse * x + c := by
  rw [List.take_add_one, h, List.reverse_append]
  rfl
theorem worth_eq {l : List Int} {x : Int} {B : Nat} {cs : Cs} (hx : x.natAbs ≤ 16) (hB : 4 ≤ B) (hl : ∀ c ∈ l, c.natAbs < 2 ^ B) (hz : B + 5 * l.length ≤ 4000) : m_worth_in [.dat (iL l), .dat (.int x)] cs = some (.dat (.int (hv x l)), cs) := by
  refine em_eq ?_
  unfold m_worth_in
  rw [em_fnM]
  unfold b_worth_in iL
  simp [dRev]
  refine el_inv (k := 0) (fun i ρ cs' => cs' = cs ∧ ∃ v3, ρ = [some (.dat (.list (l.map .int))), some (.dat (.int x)), some (.dat (.int (hv x (l.reverse.take i).reverse))), v3]) ⟨rfl, none, rfl⟩ ?_ ?_
  · rintro i d ρ cs' hd ⟨rfl, v3, rfl⟩
    rw [Nat.zero_add] at *
    have hd' : (l.reverse.map PyData.int)[i]? = some d := by simpa using hd
    rw [List.getElem?_map] at hd'
    obtain ⟨c, hc, rfl⟩ := Option.map_eq_some_iff.mp hd'
    have hb := hv_b (x := x) hx hB (l := (l.reverse.take i).reverse) (fun c hc => hl c (by
      rw [List.mem_reverse] at hc
      have := List.mem_of_mem_take hc
      rwa [List.mem_reverse] at this))
    have hb' := pow_le hb (b := 4000) (by
      rw [List.length_reverse, List.length_take, List.length_reverse]
      omega)
    rw [rev_take hc]
    simp [dMul_int (cml (i := hv x (l.reverse.take i).reverse) (j := x) 4000 5 hb' (by omega)), dAdd_int]
  · rintro ρ cs' ⟨rfl, v3, rfl⟩
    have e : ∀ n, n = l.length → l.reverse.take n = l.reverse := fun n h => List.take_of_length_le (by rw [h]; simp)
    rw [e _ (by simp), List.reverse_reverse]
    simp
theorem lworth_eq {l : List Int} {x : Int} {B : Nat} {cs : Cs} (hx : x.natAbs ≤ 16) (hB : 4 ≤ B) (hl : ∀ c ∈ l, c.natAbs < 2 ^ B) (hz : B + 5 * l.length ≤ 4000) : m__law_worth [.dat (iL l), .dat (.int x)] cs = some (.dat (.int (hv x l)), cs) := worth_eq hx hB hl hz
/-- a power -/
def ipow (x : Int) : Nat → Int
  | 0 => 1
  | n + 1 => ipow x n * x
theorem ipow_b {x : Int} (hx : x.natAbs ≤ 4) : ∀ n, (ipow x n).natAbs < 2 ^ (2 * n + 1)
  | 0 => by show (1 : Int).natAbs < _; decide
  | n + 1 => by
    have ih := ipow_b hx n
    show (ipow x n * x).natAbs < _
    rw [Int.natAbs_mul, show 2 * (n + 1) + 1 = 2 * n + 1 + 2 by omega, Nat.pow_add]
    calc (ipow x n).natAbs * x.natAbs ≤ (ipow x n).natAbs * 4 := Nat.mul_le_mul_left _ hx
      _ < 2 ^ (2 * n + 1) * 2 ^ 2 := Nat.mul_lt_mul_of_pos_right ih (by decide)
theorem ipow_nz {x : Int} (hx : x ≠ 0) : ∀ n, ipow x n ≠ 0
  | 0 => by show (1 : Int) ≠ 0; decide
  | n + 1 => Int.mul_ne_zero (ipow_nz hx n) hx
theorem power_eq {x : Int} {n : Nat} {cs : Cs} (hx : x.natAbs ≤ 4) (hn : n ≤ 60) : m_power_in [.dat (.int x), .dat (.int (n : Int))] cs = some (.dat (.int (ipow x n)), cs) := by
  refine em_eq ?_
  unfold m_power_in
  rw [em_fnM]
  unfold b_power_in
  simp
  refine ⟨sm_of (by omega), ?_⟩
  refine el_inv (k := 0) (fun i ρ cs' => i ≤ n ∧ cs' = cs ∧ ∃ v3, ρ = [some (.dat (.int x)), some (.dat (.int (n : Int))), some (.dat (.int (ipow x i))), v3]) ⟨by omega, rfl, none, rfl⟩ ?_ ?_
  · rintro i d ρ cs' hd ⟨hi, rfl, v3, rfl⟩
    rw [Nat.zero_add] at *
    have hi2 : i < n := by
      have := (List.getElem?_eq_some_iff.mp hd).1
      rw [rng_len] at this
      exact this
    have hb := pow_le (ipow_b hx i) (b := 121) (by omega)
    simp [dMul_int (cml (i := ipow x i) (j := x) 121 3 hb (by omega))]
    exact ⟨by omega, rfl⟩
  · rintro ρ cs' ⟨_, rfl, v3, rfl⟩
    rw [rng_len, Nat.zero_add]
    simp
structure Bs (p q : Int) : Prop where
  bp : p.natAbs ≤ 4
  bq : q.natAbs ≤ 4
  p0 : p ≠ 0
  q0 : q ≠ 0
def pw (p q m : Int) : Int × Int := if 0 ≤ m then (ipow p m.natAbs, ipow q m.natAbs) else (ipow q m.natAbs, ipow p m.natAbs)
theorem pw_nz {p q m : Int} (h : Bs p q) : (pw p q m).1 ≠ 0 ∧ (pw p q m).2 ≠ 0 := by
  unfold pw
  split
  · exact ⟨ipow_nz h.p0 _, ipow_nz h.q0 _⟩
  · exact ⟨ipow_nz h.q0 _, ipow_nz h.p0 _⟩
theorem pw_b {p q m : Int} (h : Bs p q) (hm : m.natAbs ≤ 60) : (pw p q m).1.natAbs < 2 ^ 121 ∧ (pw p q m).2.natAbs < 2 ^ 121 := by
  have a := pow_le (ipow_b h.bp m.natAbs) (b := 121) (by omega)
  have b := pow_le (ipow_b h.bq m.natAbs) (b := 121) (by omega)
  unfold pw
  split
  · exact ⟨a, b⟩
  · exact ⟨b, a⟩
theorem pparts_eq {p q m : Int} {cs : Cs} (h : Bs p q) (hm : m.natAbs ≤ 60) : m_power_parts [.dat (.tuple [.int p, .int q]), .dat (.int m)] cs = some (.dat (.tuple [.int (pw p q m).1, .int (pw p q m).2]), cs) := by
  have ep : ∀ cs, m_power_in [.dat (.int p), .dat (.int (m.natAbs : Int))] cs = some (.dat (.int (ipow p m.natAbs)), cs) := fun cs => power_eq h.bp hm
  have eq : ∀ cs, m_power_in [.dat (.int q), .dat (.int (m.natAbs : Int))] cs = some (.dat (.int (ipow q m.natAbs)), cs) := fun cs => power_eq h.bq hm
  refine em_eq ?_
  unfold m_power_parts
  rw [em_fnM]
  unfold b_power_parts pw
  by_cases h0 : 0 ≤ m
  · simp [dGe_int, h0, two_fit, dAbs_int]
    unfold Em
    rw [ep, wpo_some, eq]
    simp [two_fit]
  · simp [dGe_int, h0, two_fit, dIx_t0, dIx_t1, dAbs_int]
    unfold Em
    rw [eq, wpo_some, ep]
    simp [two_fit]
theorem lpow_loop {u v m : Int} {cs : Cs} {Q : Out → Prop} {w : Option Rv} {fr : D} (hu : u.natAbs ≤ 4) (hv : v.natAbs ≤ 4) {n : Nat} (hn : n ≤ 60) (h : ∀ w, Q (.nx [some (.dat fr), some (.dat (.int m)), w, some (.dat (.int u)), some (.dat (.int v)), some (di (ipow u n)), some (di (ipow v n))] cs)) {n0 : Nat} :
    El (gNm 2) (sParO 5 6 (aDat (mB dMul (xVar 5) (xVar 3)) (aDat (mB dMul (xVar 6) (xVar 4)) aNil))) n0 (rngD 0 n) [some (.dat fr), some (.dat (.int m)), w, some (.dat (.int u)), some (.dat (.int v)), some (.dat (.int 1)), some (.dat (.int 1))] cs Q := by
  refine el_inv (k := 0) (fun i ρ cs' => i ≤ n ∧ cs' = cs ∧ ∃ w, ρ = [some (.dat fr), some (.dat (.int m)), w, some (.dat (.int u)), some (.dat (.int v)), some (di (ipow u i)), some (di (ipow v i))]) ⟨by omega, rfl, w, rfl⟩ ?_ ?_
  · rintro i d ρ cs' hd ⟨hi, rfl, w, rfl⟩
    rw [Nat.zero_add] at *
    have hi2 : i < n := by
      have := (List.getElem?_eq_some_iff.mp hd).1
      rw [rng_len] at this
      exact this
    have hb := pow_le (ipow_b hu i) (b := 121) (by omega)
    have hb' := pow_le (ipow_b hv i) (b := 121) (by omega)
    simp [dMul_int (cml (i := ipow u i) (j := u) 121 3 hb (by omega)), dMul_int (cml (i := ipow v i) (j := v) 121 3 hb' (by omega))]
    exact ⟨by omega, rfl, rfl⟩
  · rintro ρ cs' ⟨_, rfl, w, rfl⟩
    rw [rng_len, Nat.zero_add]
    exact h w
theorem lpower_eq {p q m : Int} {cs : Cs} (h : Bs p q) (hm : m.natAbs ≤ 60) : m__law_power [.dat (.tuple [.int p, .int q]), .dat (.int m)] cs = some (.dat (fr2 (pw p q m)), cs) := by
  obtain ⟨n1, n2⟩ := pw_nz (m := m) h
  obtain ⟨b1, b2⟩ := pw_b h hm
  have e := fun cs => llow_eq (cs := cs) (a := (pw p q m).1) n2 (pow_le b1 (by decide)) (pow_le b2 (by decide))
  refine em_eq ?_
  unfold m__law_power
  rw [em_fnM]
  unfold b__law_power fr2
  unfold pw at e ⊢
  by_cases h0 : 0 ≤ m
  · rw [if_pos h0] at e ⊢
    simp [dGe_int, h0, two_fit, dAbs_int]
    refine ⟨sm_of (by omega), ?_⟩
    refine lpow_loop h.bp h.bq hm fun w => ?_
    simp
    refine em_of (e _) ?_
    simp
  · rw [if_neg h0] at e ⊢
    simp [dGe_int, h0, two_fit, dIx_t0, dIx_t1, dAbs_int]
    refine ⟨sm_of (by omega), ?_⟩
    refine lpow_loop h.bq h.bp hm fun w => ?_
    simp
    refine em_of (e _) ?_
    simp
end My
namespace My
open PySem PySem.Spec PyProof.Rows L2 DL
def muC (ρ : Rho) (_ : Cs) : Nat := match ρ with
  | [_, some (.dat (.int y))] => y.toNat
  | _ => 0
theorem ix_int {l : List Int} {r : Nat} (h : r < l.length) : dIx (.list (l.map .int)) (.int (r : Int)) = some (.dat (.int l[r])) := by
  show (atI (l.map PyData.int) (r : Int)).map Rv.dat = _
  unfold atI
  rw [ixN_nat (by omega) (by simp; omega)]
  simp [h]
theorem cutD_to {ds : List D} {r : Nat} (h : r ≤ ds.length) : DL.cutD ds none (some (r : Int)) = ds.take r := by
  unfold DL.cutD
  have e1 : HT.sIx ds.length 0 none = 0 := rfl
  have e2 : HT.sIx ds.length ds.length (some (r : Int)) = r := by
    unfold HT.sIx
    simp [show ¬ ((r : Int) < 0) by omega]
    omega
  rw [e1, e2]
  simp
theorem cutp_eq {l : List Int} {cs : Cs} (hl : l.length ≤ 1000) : ∃ r, m_cut_poly [.dat (iL l)] cs = some (.fr ((l.take r).map .int), cs) ∧ ∀ c ∈ l.drop r, c = 0 := by
  suffices h : Em m_cut_poly [.dat (iL l)] cs fun z c => c = cs ∧ ∃ r, z = .fr ((l.take r).map .int) ∧ ∀ c ∈ l.drop r, c = 0 by
    obtain ⟨z, c, e, rfl, r, rfl, h2⟩ := wpo_iff.mp h
    exact ⟨r, e, h2⟩
  unfold m_cut_poly
  rw [em_fnM]
  unfold b_cut_poly iL
  simp [dLen]
  refine es_sWh (fun ρ c => c = cs ∧ ∃ r : Nat, r ≤ l.length ∧ ρ = [some (.dat (.list (l.map .int))), some (di (r : Int))] ∧ ∀ c ∈ l.drop r, c = 0) muC ⟨rfl, l.length, Nat.le_refl _, rfl, by simp⟩ ?_
  rintro ρ c ⟨rfl, r, hr, rfl, hz⟩
  have stop : Es (sRet (mSl (xVar 0) oNone (oSome (xVar 1)))) c.length [some (.dat (.list (l.map .int))), some (di (r : Int))] c (DL.Fin c.length fun z c' => c' = c ∧ ∃ r, z = .fr ((l.take r).map .int) ∧ ∀ c ∈ l.drop r, c = 0) := by
    have e : dSl (.list (l.map .int)) none (some (r : Int)) = some (.fr ((l.map .int).take r)) := by
      show some (Rv.fr (DL.cutD _ _ _)) = _
      rw [cutD_to (by simpa using hr)]
    simp [e]
    exact ⟨r, rfl, hz⟩
  rcases Nat.eq_zero_or_pos r with h0 | h0
  · subst h0
    simp [dGt_int]
    simpa using stop
  · have e1 : (r : Int) - 1 = ((r - 1 : Nat) : Int) := by omega
    have hlt : r - 1 < l.length := by omega
    have gt : (0 : Int) < (r : Int) := by omega
    simp only [et_mTAnd, et_mTB, ev_mB, ev_xVar, ev_xC]
    simp [dGt_int, h0, dSub_int]
    rw [e1, ix_int hlt]
    by_cases hx : l[r - 1] = 0
    · simp [fdEq_int, hx, dSub_int, muC]
      refine ⟨⟨r - 1, by omega, by omega, ?_⟩, by omega⟩
      intro c hc
      have : l.drop (r - 1) = l[r - 1] :: l.drop r := by
        rw [List.drop_eq_getElem_cons hlt, show r - 1 + 1 = r by omega]
      rw [this] at hc
      rcases List.mem_cons.mp hc with q | q
      · rw [q, hx]
      · exact hz c q
    · simp [fdEq_int, hx]
      simpa using stop
/-! the double terms' polys -/
structure Dp (ps : List (List Int)) : Prop where
  l : ps.length ≤ 4
  e : ∀ p ∈ ps, p.length ≤ 4 ∧ ∀ c ∈ p, c.natAbs < 2 ^ 4
def dpD (ps : List (List Int)) : D := .list (ps.map iL)
def wOf (ps : List (List Int)) (n k : Int) : Int := hv k (ps.map (hv n))
theorem hvn_b {ps : List (List Int)} {n : Int} (h : Dp ps) (hn : n.natAbs ≤ 16) : ∀ c ∈ ps.map (hv n), c.natAbs < 2 ^ 24 := fun c hc => by
  obtain ⟨p, hp, rfl⟩ := List.mem_map.mp hc
  obtain ⟨h1, h2⟩ := h.e p hp
  exact pow_le (hv_b hn (by decide) h2) (by omega)
theorem wOf_b {ps : List (List Int)} {n k : Int} (h : Dp ps) (hn : n.natAbs ≤ 16) (hk : k.natAbs ≤ 16) : (wOf ps n k).natAbs < 2 ^ 44 := by
  have := hv_b (x := k) (B := 24) hk (by decide) (hvn_b h hn)
  rw [List.length_map] at this
  exact pow_le this (by have := h.l; omega)
theorem wop_eq {ps : List (List Int)} {n : Int} {cs : Cs} (h : Dp ps) (hn : n.natAbs ≤ 16) : ∃ r, m_worths_of_parts [.dat (dpD ps), .dat (.int n)] cs = some (.fr (((ps.map (hv n)).take r).map .int), cs) ∧ ∀ c ∈ (ps.map (hv n)).drop r, c = 0 := by
  obtain ⟨r, e, hz⟩ := cutp_eq (l := ps.map (hv n)) (cs := cs) (by have := h.l; simp; omega)
  refine ⟨r, em_eq ?_, hz⟩
  unfold m_worths_of_parts
  rw [em_fnM]
  unfold b_worths_of_parts dpD
  simp
  refine ec_pure (fun _ => true) (fun x => match x with | .list ds => .int (hv n (ds.map fun d => match d with | .int i => i | _ => 0)) | _ => .none) (fun x hx cs' => ?_) (le_size (by have := h.l; simp; omega)) ?_
  · obtain ⟨p, hp, rfl⟩ := List.mem_map.mp hx
    obtain ⟨h1, h2⟩ := h.e p hp
    simp [wipeR]
    refine em_of (worth_eq hn (B := 4) (by decide) h2 (by omega)) ?_
    simp [iL]
    congr 1
    exact (List.map_id p).symm
  · have e2 : List.map (fun x => match x with | .list ds => PyData.int (hv n (ds.map fun d => match d with | .int i => i | _ => 0)) | _ => .none) (ps.map iL) = (ps.map (hv n)).map PyData.int := by
      rw [List.map_map, List.map_map]
      refine List.map_congr_left fun p _ => ?_
      show PyData.int (hv n ((p.map PyData.int).map _)) = _
      rw [List.map_map]
      congr 2
      exact List.map_id p
    rw [List.nil_append, List.filter_eq_self.mpr (fun _ _ => rfl), e2]
    simp
    refine em_of (show m_cut_poly [.dat (.list (List.map (PyData.int ∘ hv n) ps))] cs = _ from by
      have := e
      unfold iL at this
      rwa [List.map_map] at this) ?_
    simp [List.map_take]
end My
namespace My
open PySem PySem.Spec PyProof.Rows L2 DL
def tot (fs : List Fc) (ps : List (List Int)) (p1 q1 p2 q2 n k : Int) : Int × Int := (wOf ps n k * (prod n k fs).1 * (pw p1 q1 n).1 * (pw p2 q2 k).1, (prod n k fs).2 * (pw p1 q1 n).2 * (pw p2 q2 k).2)
theorem fr2_zero {t : Int × Int} (h : t.1 = 0) (h2 : t.2 ≠ 0) : fr2 t = .tuple [.int 0, .int 1] := by
  unfold fr2 nfA nfB
  rw [h, Int.mul_zero, Int.zero_ediv, Int.gcd_zero_left, Int.ediv_self (by omega)]
theorem bad_there {fs : List Fc} {n k : Int} (h : Fcs fs) (hc : cutB fs n k = false) : fs.any (bad n k) = !thereB fs n k := by
  unfold cutB at hc
  unfold thereB
  rw [List.any_eq_false] at hc
  cases hb : fs.any (bad n k) with
  | true =>
    obtain ⟨f, hf, hbf⟩ := List.any_eq_true.mp hb
    have hcf := hc f hf
    unfold bad at hbf
    unfold pk at hcf
    rw [Bool.and_eq_true, decide_eq_true_iff] at hbf
    have : (fs.all fun f => !pk 1 f || decide (0 ≤ f.m n k)) = false := by
      rw [List.all_eq_false]
      refine ⟨f, hf, ?_⟩
      rcases (h.2 f hf).e with he | he
      · unfold pk
        rw [hbf.1, he]
        simp
        exact hbf.2
      · exfalso
        rw [hbf.1, he, decide_eq_true hbf.2] at hcf
        exact hcf rfl
    rw [this]
    rfl
  | false =>
    have : (fs.all fun f => !pk 1 f || decide (0 ≤ f.m n k)) = true := by
      rw [List.all_eq_true]
      intro f hf
      have hbf := List.any_eq_false.mp hb f hf
      unfold bad at hbf
      unfold pk
      cases ho : f.one with
      | false => rfl
      | true =>
        rw [ho, Bool.true_and, decide_eq_true_iff] at hbf
        simp
        right
        omega
    rw [this]
    rfl
def dbl (fs : List Fc) (ps : List (List Int)) (p1 q1 p2 q2 : Int) : D := .tuple [.str "double", dpD ps, .tuple [.int p1, .int q1], .tuple [.int p2, .int q2], dOf fs]
section
variable {fs : List Fc} {ps : List (List Int)} {p1 q1 p2 q2 n k : Int}
theorem ps_plain : PyData.plainAll (ps.map iL) = true := plain_all.mpr fun d hd => by
  obtain ⟨p, _, rfl⟩ := List.mem_map.mp hd
  refine plain_all.mpr fun x hx => ?_
  obtain ⟨i, _, rfl⟩ := List.mem_map.mp hx
  rfl
theorem count_eq {i : Int} {cs : Cs} (hi : 0 ≤ i) : m_check_number [.dat (.int i)] cs = some (.ok (.dat .none) cs) := by
  refine emx_eq ?_
  unfold m_check_number
  rw [emx_fnX]
  unfold b_check_number m_is_count
  simp
  rw [em_fnM]
  unfold b_is_count
  simp
  refine em_of is_whole_eq ?_
  simp [wholeB, dGe_int, hi]
end

/-! worths farther off -/
theorem hv_c {x : Int} {B : Nat} (hx : x.natAbs ≤ 64) (hB : 6 ≤ B) : ∀ {l : List Int}, (∀ c ∈ l, c.natAbs < 2 ^ B) → (hv x l).natAbs < 2 ^ (B + 7 * l.length)
  | [], _ => by
    show (0 : Int).natAbs < _
    exact Nat.lt_of_lt_of_le (by decide) (Nat.one_le_two_pow)
  | c :: r, h => by
    have ih := hv_c hx hB (l := r) fun d hd => h d (List.mem_cons_of_mem _ hd)
    have hc := pow_le (h c (List.mem_cons_self ..)) (show B ≤ B + 7 * r.length + 6 by omega)
    have hm : (hv x r * x).natAbs < 2 ^ (B + 7 * r.length + 6) := by
      rw [Int.natAbs_mul, Nat.pow_add]
      calc (hv x r).natAbs * x.natAbs ≤ (hv x r).natAbs * 64 := Nat.mul_le_mul_left _ hx
        _ < 2 ^ (B + 7 * r.length) * 2 ^ 6 := Nat.mul_lt_mul_of_pos_right ih (by decide)
    have := lg_add hm hc
    show (hv x r * x + c).natAbs < 2 ^ (B + 7 * (r.length + 1))
    exact pow_le this (by omega)
theorem worth_far {l : List Int} {x : Int} {B : Nat} {cs : Cs} (hx : x.natAbs ≤ 64) (hB : 6 ≤ B) (hl : ∀ c ∈ l, c.natAbs < 2 ^ B) (hz : B + 7 * l.length ≤ 4000) : m_worth_in [.dat (iL l), .dat (.int x)] cs = some (.dat (.int (hv x l)), cs) := by
  refine em_eq ?_
  unfold m_worth_in
  rw [em_fnM]
  unfold b_worth_in iL
  simp [dRev]
  refine el_inv (k := 0) (fun i ρ cs' => cs' = cs ∧ ∃ v3, ρ = [some (.dat (.list (l.map .int))), some (.dat (.int x)), some (.dat (.int (hv x (l.reverse.take i).reverse))), v3]) ⟨rfl, none, rfl⟩ ?_ ?_
  · rintro i d ρ cs' hd ⟨rfl, v3, rfl⟩
    rw [Nat.zero_add] at *
    have hd' : (l.reverse.map PyData.int)[i]? = some d := by simpa using hd
    rw [List.getElem?_map] at hd'
    obtain ⟨c, hc, rfl⟩ := Option.map_eq_some_iff.mp hd'
    have hb := hv_c (x := x) hx hB (l := (l.reverse.take i).reverse) (fun c hc => hl c (by
      rw [List.mem_reverse] at hc
      have := List.mem_of_mem_take hc
      rwa [List.mem_reverse] at this))
    have hb' := pow_le hb (b := 4000) (by
      rw [List.length_reverse, List.length_take, List.length_reverse]
      omega)
    rw [rev_take hc]
    simp [dMul_int (cml (i := hv x (l.reverse.take i).reverse) (j := x) 4000 7 hb' (by omega)), dAdd_int]
  · rintro ρ cs' ⟨rfl, v3, rfl⟩
    have e : ∀ n, n = l.length → l.reverse.take n = l.reverse := fun n h => List.take_of_length_le (by rw [h]; simp)
    rw [e _ (by simp), List.reverse_reverse]
    simp
theorem rp_c {p q m : Int} (h : RS p q) (h4 : q ≤ 4) : ∀ {n : Nat}, n ≤ 160 → (rp p q m n).1.natAbs < 2 ^ (10 * n + 1) ∧ (rp p q m n).2.natAbs < 2 ^ (10 * n + 1)
  | 0, _ => ⟨by show (1 : Int).natAbs < _; decide, by show (1 : Int).natAbs < _; decide⟩
  | n + 1, hn => by
    obtain ⟨i1, i2⟩ := rp_c (m := m) h h4 (n := n) (by omega)
    have p0 := h.p0
    have ple := h.le
    have e : (n : Int) * q ≤ 160 * 4 := by
      have a : (n : Int) * q ≤ 160 * q := Int.mul_le_mul_of_nonneg_right (by omega) (by omega)
      omega
    have e0 : 0 ≤ (n : Int) * q := Int.mul_nonneg (by omega) (by omega)
    have e1 : ((n : Int) + 1) * q = (n : Int) * q + q := by rw [Int.add_mul, Int.one_mul]
    have f1 : (p + (n : Int) * q).natAbs < 2 ^ 10 := by omega
    have f2 : (p - ((n : Int) + 1) * q).natAbs < 2 ^ 10 := by omega
    have f3 : q.natAbs < 2 ^ 10 := by omega
    unfold rp
    rw [show 10 * (n + 1) + 1 = 10 * n + 1 + 10 by omega]
    split
    · exact ⟨lg_mul i1 f1, lg_mul i2 f3⟩
    · exact ⟨lg_mul i1 f3, lg_mul i2 f2⟩
theorem parts_far {p q m : Int} {cs : Cs} (h : RS p q) (h4 : q ≤ 4) (hm : m.natAbs ≤ 160) : m_rising_parts [.dat (.tuple [.int p, .int q]), .dat (.int m)] cs = some (.dat (.tuple [.int (rp p q m m.natAbs).1, .int (rp p q m m.natAbs).2]), cs) := by
  refine em_eq ?_
  unfold m_rising_parts
  rw [em_fnM]
  unfold b_rising_parts
  have two : 2 ≤ sizeLine := two_fit
  have p0 := h.p0
  have ple := h.le
  simp [two, dAbs_int]
  refine ⟨sm_of (by omega), ?_⟩
  refine el_inv (k := 0) (fun i ρ cs' => i ≤ m.natAbs ∧ cs' = cs ∧ ∃ x2, ρ = [some (.dat (.tuple [.int p, .int q])), some (.dat (.int m)), x2, some (di (rp p q m i).1), some (di (rp p q m i).2)]) ⟨by omega, rfl, none, rfl⟩ ?_ ?_
  · rintro i d ρ cs' hd ⟨hi', rfl, x2, rfl⟩
    rw [Nat.zero_add] at *
    have hi : i < m.natAbs := by
      have := (List.getElem?_eq_some_iff.mp hd).1
      rw [rng_len] at this
      exact this
    have ed : d = .int (i : Int) := by
      unfold rngD at hd
      rw [List.getElem?_map, List.getElem?_range hi] at hd
      simpa using hd.symm
    subst ed
    obtain ⟨b1, b2⟩ := rp_c (m := m) h h4 (n := i) (by omega)
    have q1 : q.natAbs < 2 ^ 11 := by omega
    have c1 : CMl (i : Int) q := cml 11 11 (by omega) q1
    have c1' : CMl ((i : Int) + 1) q := cml 11 11 (by omega) q1
    have e : (i : Int) * q ≤ 160 * 4 := by
      have a : (i : Int) * q ≤ 160 * q := Int.mul_le_mul_of_nonneg_right (by omega) (by omega)
      omega
    have e0 : 0 ≤ (i : Int) * q := Int.mul_nonneg (by omega) (by omega)
    have e1 : ((i : Int) + 1) * q = (i : Int) * q + q := by rw [Int.add_mul, Int.one_mul]
    have c2 : CMl (rp p q m i).1 (p + i * q) := cml (10 * i + 1) 11 b1 (by omega) (by omega)
    have c3 : CMl (rp p q m i).2 q := cml (10 * i + 1) 11 b2 q1 (by omega)
    have c4 : CMl (rp p q m i).1 q := cml (10 * i + 1) 11 b1 q1 (by omega)
    have c5 : CMl (rp p q m i).2 (p - (i + 1) * q) := cml (10 * i + 1) 11 b2 (by omega) (by omega)
    simp only [rp]
    by_cases h0 : 0 ≤ m
    · simp [dGe_int, h0, dIx_t0, dIx_t1, dMul_int c1, dMul_int c2, dMul_int c3, dAdd_int]
      omega
    · simp [dGe_int, h0, dIx_t0, dIx_t1, dMul_int c1', dMul_int c4, dMul_int c5, dAdd_int, dSub_int]
      omega
  · rintro ρ cs' ⟨_, rfl, x2, rfl⟩
    rw [rng_len, Nat.zero_add]
    simp [two]
theorem lw_far {f : Fc} {n k : Int} {cs : Cs} (h : f.Ok) (hn : n.natAbs ≤ 1000) (hk : k.natAbs ≤ 1000) : m_line_worth [.dat f.line, .dat (.int n), .dat (.int k)] cs = some (.dat (.int (f.m n k)), cs) := by
  have h1 := h.a
  have h2 := h.b
  refine em_eq ?_
  unfold m_line_worth
  rw [em_fnM]
  unfold b_line_worth Fc.line
  simp [dIx3_0, dIx3_1, dIx3_2, dMul_int (cml (i := f.a) (j := n) 4 10 (by omega) (by omega)), dMul_int (cml (i := f.b) (j := k) 4 10 (by omega) (by omega)), dAdd_int]
  rfl
theorem cut_far {fs : List Fc} {n k : Int} {cs : Cs} (h : Fcs fs) (hn : n.natAbs ≤ 1000) (hk : k.natAbs ≤ 1000) : m_is_cut [.dat (dOf fs), .dat (.int n), .dat (.int k)] cs = some (db (cutB fs n k), cs) := by
  refine em_eq ?_
  unfold m_is_cut
  rw [em_fnM]
  unfold b_is_cut
  simp [dNeg_int]
  refine em_of (wl_eq h) ?_
  simp
  have hl := flen (E := -1) h
  refine ec_pure (fun _ => true) (fun l => .bool (decide (lv n k l < 0))) (fun x hx cs' => ?_) (le_size (by simp at hl ⊢; omega)) ?_
  · obtain ⟨f, _, _, rfl, ho⟩ := fok h hx
    simp [wipeR]
    refine em_of (lw_far ho hn hk) ?_
    simp [dLt_int, lv_line]
    exact decide_eq_decide.mpr Iff.rfl
  · rw [List.nil_append, List.filter_eq_self.mpr (fun _ _ => rfl), anyB (le_size (by simp at hl ⊢; omega)), List.any_map]
    simp
    rfl
theorem there_far {fs : List Fc} {n k : Int} {cs : Cs} (h : Fcs fs) (hn : n.natAbs ≤ 1000) (hk : k.natAbs ≤ 1000) : m_is_there [.dat (dOf fs), .dat (.int n), .dat (.int k)] cs = some (db (thereB fs n k), cs) := by
  refine em_eq ?_
  unfold m_is_there
  rw [em_fnM]
  unfold b_is_there
  simp
  refine em_of (wl_eq h) ?_
  simp
  have hl := flen (E := 1) h
  refine ec_pure (fun _ => true) (fun l => .bool (decide (0 ≤ lv n k l))) (fun x hx cs' => ?_) (le_size (by simp at hl ⊢; omega)) ?_
  · obtain ⟨f, _, _, rfl, ho⟩ := fok h hx
    simp [wipeR]
    refine em_of (lw_far ho hn hk) ?_
    simp [dGe_int, lv_line]
    exact decide_eq_decide.mpr Iff.rfl
  · rw [List.nil_append, List.filter_eq_self.mpr (fun _ _ => rfl), allB (le_size (by simp at hl ⊢; omega)), List.all_map]
    simp
    rfl
structure Ex (fs : List Fc) (n k : Int) : Prop where
  f : Fcs fs
  m : ∀ f ∈ fs, (f.m n k).natAbs ≤ 160
  q : ∀ f ∈ fs, f.q ≤ 4
  n : n.natAbs ≤ 16
  k : k.natAbs ≤ 60
def sumM (n k : Int) : List Fc → Nat
  | [] => 0
  | f :: r => (f.m n k).natAbs + sumM n k r
theorem pr_c {f : Fc} {n k : Int} (h : f.Ok) (h4 : f.q ≤ 4) (hm : (f.m n k).natAbs ≤ 160) : (pr n k f).1.natAbs < 2 ^ (10 * (f.m n k).natAbs + 1) ∧ (pr n k f).2.natAbs < 2 ^ (10 * (f.m n k).natAbs + 1) := by
  obtain ⟨b1, b2⟩ := rp_c (m := f.m n k) h.rs h4 (n := (f.m n k).natAbs) hm
  unfold pr
  split
  · exact ⟨b1, b2⟩
  · exact ⟨b2, b1⟩
theorem stp_c {n k : Int} : ∀ {fs : List Fc} {t : Int × Int} {s : Nat}, (∀ f ∈ fs, f.Ok ∧ f.q ≤ 4 ∧ (f.m n k).natAbs ≤ 160) → t.1.natAbs < 2 ^ s → t.2.natAbs < 2 ^ s → (fs.foldl (stp n k) t).1.natAbs < 2 ^ (s + 10 * sumM n k fs + fs.length) ∧ (fs.foldl (stp n k) t).2.natAbs < 2 ^ (s + 10 * sumM n k fs + fs.length)
  | [], t, s, _, h1, h2 => ⟨h1, h2⟩
  | f :: r, t, s, ho, h1, h2 => by
    obtain ⟨o1, o2, o3⟩ := ho f (List.mem_cons_self ..)
    obtain ⟨p1, p2⟩ := pr_c o1 o2 o3
    have := stp_c (fs := r) (t := stp n k t f) (s := s + (10 * (f.m n k).natAbs + 1)) (fun g hg => ho g (List.mem_cons_of_mem _ hg)) (lg_mul h1 p1) (lg_mul h2 p2)
    have e : s + 10 * sumM n k (f :: r) + (f :: r).length = s + (10 * (f.m n k).natAbs + 1) + 10 * sumM n k r + r.length := by
      show s + 10 * ((f.m n k).natAbs + sumM n k r) + (r.length + 1) = _
      omega
    rw [List.foldl_cons, e]
    exact this
theorem sumM_le {n k : Int} : ∀ {fs : List Fc}, (∀ f ∈ fs, (f.m n k).natAbs ≤ 160) → sumM n k fs ≤ 160 * fs.length
  | [], _ => Nat.zero_le _
  | f :: r, h => by
    have := h f (List.mem_cons_self ..)
    have := sumM_le (fs := r) fun g hg => h g (List.mem_cons_of_mem _ hg)
    show (f.m n k).natAbs + sumM n k r ≤ 160 * (r.length + 1)
    omega
theorem Ex.all {fs : List Fc} {n k : Int} (h : Ex fs n k) : ∀ f ∈ fs, f.Ok ∧ f.q ≤ 4 ∧ (f.m n k).natAbs ≤ 160 := fun f hf => ⟨h.f.2 f hf, h.q f hf, h.m f hf⟩
theorem take_c {fs : List Fc} {n k : Int} (h : Ex fs n k) (i : Nat) : (prod n k (fs.take i)).1.natAbs < 2 ^ 16020 ∧ (prod n k (fs.take i)).2.natAbs < 2 ^ 16020 := by
  have a : ∀ f ∈ fs.take i, f.Ok ∧ f.q ≤ 4 ∧ (f.m n k).natAbs ≤ 160 := fun f hf => h.all f (List.mem_of_mem_take hf)
  obtain ⟨h1, h2⟩ := stp_c (t := (1, 1)) (s := 1) a (by decide) (by decide)
  have sm := sumM_le (fs := fs.take i) fun f hf => (a f hf).2.2
  have hl := h.f.1
  have : (fs.take i).length ≤ 10 := by rw [List.length_take]; omega
  exact ⟨pow_le h1 (by omega), pow_le h2 (by omega)⟩
theorem fw_far {fs : List Fc} {n k : Int} {cs : Cs} (x : Ex fs n k) : m_factors_worth [.dat (dOf fs), .dat (.int n), .dat (.int k)] cs = some (.dat (.tuple [.int (prod n k fs).1, .int (prod n k fs).2]), cs) := by
  refine em_eq ?_
  unfold m_factors_worth
  rw [em_fnM]
  unfold b_factors_worth dOf
  have two : 2 ≤ sizeLine := two_fit
  simp [two]
  refine el_inv (k := 0) (fun i ρ cs' => cs' = cs ∧ ∃ v5 v6 v7 v8 v9, ρ = [some (.dat (.list (fs.map Fc.d))), some (.dat (.int n)), some (.dat (.int k)), some (di (prod n k (fs.take i)).1), some (di (prod n k (fs.take i)).2), v5, v6, v7, v8, v9]) ⟨rfl, none, none, none, none, none, rfl⟩ ?_ ?_
  · rintro i d ρ cs' hd ⟨rfl, v5, v6, v7, v8, v9, rfl⟩
    rw [Nat.zero_add] at *
    rw [List.getElem?_map] at hd
    obtain ⟨f, hf, rfl⟩ := Option.map_eq_some_iff.mp hd
    obtain ⟨ho, h4, hm⟩ := x.all f (List.mem_of_getElem? hf)
    obtain ⟨t1, t2⟩ := take_c x i
    obtain ⟨b1, b2⟩ := rp_c (m := f.m n k) ho.rs h4 (n := (f.m n k).natAbs) hm
    have b1 := pow_le b1 (b := 1601) (by omega)
    have b2 := pow_le b2 (b := 1601) (by omega)
    rw [prod_take hf]
    unfold Fc.d
    simp
    refine em_of (lw_far ho (by have := x.n; omega) (by have := x.k; omega)) ?_
    simp
    refine em_of (parts_far ho.rs h4 hm) ?_
    simp [fdEq_int, two]
    unfold stp pr
    generalize prod n k (fs.take i) = t at t1 t2 ⊢
    generalize rp f.p f.q (f.m n k) (f.m n k).natAbs = r at b1 b2 ⊢
    by_cases he : f.e = 1
    · simp [he, dMul_int (cml 16020 1601 t1 b1), dMul_int (cml 16020 1601 t2 b2), two]
    · simp [he, dMul_int (cml 16020 1601 t1 b2), dMul_int (cml 16020 1601 t2 b1), two]
  · rintro ρ cs' ⟨rfl, v5, v6, v7, v8, v9, rfl⟩
    have e : fs.take (0 + (fs.map Fc.d).length) = fs := by
      rw [List.length_map, Nat.zero_add]
      exact List.take_length
    rw [e]
    simp [two]
end My
namespace My
open PySem PySem.Spec PyProof.Rows L2 DL
/-! trees of small leaves, their sizes -/
mutual
def sz : D → Nat
  | .list ds => 1 + szs ds
  | .tuple ds => 1 + szs ds
  | .none => 1
  | .bool _ => 1
  | .int _ => 1
  | .str _ => 1
  | .dict _ => 1
def szs : List D → Nat
  | [] => 0
  | d :: ds => sz d + szs ds
end
def pz : Nat → D → Bool
  | n + 1, .list ds => ds.all (pz n)
  | n + 1, .tuple ds => ds.all (pz n)
  | _, d => tl d
theorem szs_nil : szs [] = 0 := by rw [szs]
theorem szs_cons {d : D} {ds : List D} : szs (d :: ds) = sz d + szs ds := by rw [szs]
theorem sz_list {ds : List D} : sz (.list ds) = 1 + szs ds := by rw [sz]
theorem sz_tuple {ds : List D} : sz (.tuple ds) = 1 + szs ds := by rw [sz]
theorem sz_int {i : Int} : sz (.int i) = 1 := by rw [sz]
theorem sz_str {i : Str} : sz (.str i) = 1 := by rw [sz]
theorem sz_bool {i : Bool} : sz (.bool i) = 1 := by rw [sz]
theorem sz_none : sz .none = 1 := by rw [sz]
theorem sz_dict {i : List (D × D)} : sz (.dict i) = 1 := by rw [sz]
theorem szs_app : ∀ (xs ys : List D), szs (xs ++ ys) = szs xs + szs ys
  | [], ys => by rw [szs_nil, List.nil_append]; omega
  | x :: xs, ys => by
    rw [List.cons_append, szs_cons, szs_cons, szs_app xs ys]
    omega
theorem sz_pos : ∀ d : D, 1 ≤ sz d := fun d => by cases d <;> rw [sz] <;> omega
theorem len_szs : ∀ ds : List D, ds.length ≤ szs ds
  | [] => Nat.zero_le _
  | d :: ds => by
    have := len_szs ds
    have := sz_pos d
    rw [szs_cons, List.length_cons]
    omega
theorem mem_szs : ∀ {ds : List D} {d : D}, d ∈ ds → sz d ≤ szs ds
  | d :: ds, x, h => by
    rw [szs_cons]
    rcases List.mem_cons.mp h with rfl | h
    · omega
    · have := mem_szs h
      omega
structure PF (n : Nat) (x : D) : Prop where
  s : x.showable = true
  l : x.leavesShort 41 = true
  b : x.bulk + 1 ≤ 12 * sz x
  d : x.depth ≤ n
structure PFs (n : Nat) (ds : List D) : Prop where
  s : PyData.showableAll ds = true
  l : PyData.leavesShortAll 41 ds = true
  b : PyData.bulkAll ds ≤ 12 * szs ds
  d : PyData.depthAll ds ≤ n
theorem pf_all {n : Nat} : ∀ {ds : List D}, (∀ x ∈ ds, PF n x) → PFs n ds
  | [], _ => ⟨rfl, rfl, Nat.zero_le _, Nat.zero_le _⟩
  | d :: ds, h => by
    have a := h d (List.mem_cons_self ..)
    have t := pf_all fun x hx => h x (List.mem_cons_of_mem _ hx)
    refine ⟨?_, ?_, ?_, ?_⟩
    · rw [PyData.showableAll, a.s, t.s]; rfl
    · rw [PyData.leavesShortAll, a.l, t.l]; rfl
    · rw [PyData.bulkAll, szs_cons]
      have := a.b
      have := t.b
      omega
    · rw [PyData.depthAll]
      exact Nat.max_le.mpr ⟨a.d, t.d⟩
theorem pf_leaf {d : D} (h : tl d = true) {n : Nat} : PF n d := by
  have f := tl_fl h
  refine ⟨fl_show f, fl_leaf f, ?_, by rw [fl_depth f]; exact Nat.zero_le _⟩
  have := tl_bulk h
  have := sz_pos d
  omega
theorem PFs.list {n : Nat} {ds : List D} (t : PFs n ds) : PF (n + 1) (.list ds) := ⟨t.s, t.l, by
  have := t.b
  rw [sz_list]
  show PyData.bulkAll ds + 1 ≤ _
  omega, by
  have := t.d
  show PyData.depthAll ds + 1 ≤ n + 1
  omega⟩
theorem PFs.tuple {n : Nat} {ds : List D} (t : PFs n ds) : PF (n + 1) (.tuple ds) := ⟨t.s, t.l, by
  have := t.b
  rw [sz_tuple]
  show PyData.bulkAll ds + 1 ≤ _
  omega, by
  have := t.d
  show PyData.depthAll ds + 1 ≤ n + 1
  omega⟩
theorem pz_leaf {d : D} (h : tl d = true) : ∀ n, pz n d = true
  | 0 => by unfold pz; exact h
  | n + 1 => by
    cases d with
    | list _ => cases h
    | tuple _ => cases h
    | _ => exact h
theorem pz_list {n : Nat} {ds : List D} : pz (n + 1) (.list ds) = ds.all (pz n) := by rw [pz]
theorem pz_tuple {n : Nat} {ds : List D} : pz (n + 1) (.tuple ds) = ds.all (pz n) := by rw [pz]
theorem pz_pf : ∀ (n : Nat) (d : D), pz n d = true → PF n d
  | 0, d, h => by
    unfold pz at h
    exact pf_leaf h
  | n + 1, .list ds, h => by
    rw [pz_list] at h
    exact (pf_all fun x hx => pz_pf n x (List.all_eq_true.mp h x hx)).list
  | n + 1, .tuple ds, h => by
    rw [pz_tuple] at h
    exact (pf_all fun x hx => pz_pf n x (List.all_eq_true.mp h x hx)).tuple
  | n + 1, .none, h => pf_leaf rfl
  | n + 1, .bool b, h => pf_leaf rfl
  | n + 1, .int i, h => pf_leaf h
  | n + 1, .str x, h => pf_leaf h
  | n + 1, .dict _, h => by cases h
theorem pz_plain : ∀ (n : Nat) (d : D), pz n d = true → d.plain = true
  | 0, d, h => by
    unfold pz at h
    exact fl_plain (tl_fl h)
  | n + 1, .list ds, h => by
    rw [pz_list] at h
    exact plain_all.mpr fun x hx => pz_plain n x (List.all_eq_true.mp h x hx)
  | n + 1, .tuple ds, h => by
    rw [pz_tuple] at h
    exact plain_all.mpr fun x hx => pz_plain n x (List.all_eq_true.mp h x hx)
  | n + 1, .none, h => rfl
  | n + 1, .bool b, h => rfl
  | n + 1, .int i, h => rfl
  | n + 1, .str x, h => rfl
  | n + 1, .dict _, h => by cases h
theorem pz_mono : ∀ (n : Nat) (d : D), pz n d = true → pz (n + 1) d = true
  | 0, d, h => by
    unfold pz at h
    exact pz_leaf h 1
  | n + 1, .list ds, h => by
    rw [pz_list] at h ⊢
    exact List.all_eq_true.mpr fun x hx => pz_mono n x (List.all_eq_true.mp h x hx)
  | n + 1, .tuple ds, h => by
    rw [pz_tuple] at h ⊢
    exact List.all_eq_true.mpr fun x hx => pz_mono n x (List.all_eq_true.mp h x hx)
  | n + 1, .none, h => rfl
  | n + 1, .bool b, h => rfl
  | n + 1, .int i, h => h
  | n + 1, .str x, h => h
  | n + 1, .dict _, h => by cases h
theorem pz_le {n m : Nat} {d : D} (h : pz n d = true) (hm : n ≤ m) : pz m d = true := by
  induction m with
  | zero =>
    have : n = 0 := by omega
    subst this
    exact h
  | succ m ih =>
    rcases Nat.lt_or_ge n (m + 1) with h1 | h1
    · exact pz_mono m d (ih (by omega))
    · have : n = m + 1 := by omega
      subst this
      exact h
/-! a part of a value: such a tree, or an empty dict; a value: parts in a tuple or a list -/
def isD0 : D → Bool
  | .dict [] => true
  | _ => false
theorem d0_eq {d : D} (h : isD0 d = true) : d = .dict [] := by
  unfold isD0 at h
  split at h
  · rfl
  · cases h
def cz (d : D) : Bool := isD0 d || pz 6 d
def vz : D → Bool
  | .tuple ds => ds.all cz
  | .list ds => ds.all cz
  | d => cz d
theorem cz_pf {d : D} (h : cz d = true) : PF 6 d := by
  rcases Bool.or_eq_true_iff.mp h with h | h
  · rw [d0_eq h]
    exact ⟨rfl, rfl, by rw [sz_dict]; decide, by decide⟩
  · exact pz_pf 6 d h
theorem cz_noF {d : D} (h : cz d = true) : noF d = true := by
  rcases Bool.or_eq_true_iff.mp h with h | h
  · rw [d0_eq h]
    unfold noF noFk
    rfl
  · exact noF_plain (pz_plain 6 d h)
theorem vz_pf {d : D} (h : vz d = true) : PF 7 d ∧ noF d = true := by
  cases d with
  | tuple ds =>
    have h' := List.all_eq_true.mp (show ds.all cz = true from h)
    refine ⟨(pf_all fun x hx => cz_pf (h' x hx)).tuple, ?_⟩
    unfold noF
    clear h
    induction ds with
    | nil => unfold noFs; rfl
    | cons x r ih =>
      unfold noFs
      rw [cz_noF (h' x (List.mem_cons_self ..)), ih fun y hy => h' y (List.mem_cons_of_mem _ hy)]
      rfl
  | list ds =>
    have h' := List.all_eq_true.mp (show ds.all cz = true from h)
    refine ⟨(pf_all fun x hx => cz_pf (h' x hx)).list, ?_⟩
    unfold noF
    clear h
    induction ds with
    | nil => unfold noFs; rfl
    | cons x r ih =>
      unfold noFs
      rw [cz_noF (h' x (List.mem_cons_self ..)), ih fun y hy => h' y (List.mem_cons_of_mem _ hy)]
      rfl
  | none => exact ⟨pf_leaf rfl, by unfold noF; rfl⟩
  | bool b => exact ⟨pf_leaf rfl, by unfold noF; rfl⟩
  | int i =>
    have p := cz_pf (show cz (.int i) = true from h)
    exact ⟨⟨p.s, p.l, p.b, Nat.le_trans p.d (by decide)⟩, by unfold noF; rfl⟩
  | str x =>
    have p := cz_pf (show cz (.str x) = true from h)
    exact ⟨⟨p.s, p.l, p.b, Nat.le_trans p.d (by decide)⟩, by unfold noF; rfl⟩
  | dict kvs =>
    have p := cz_pf (show cz (.dict kvs) = true from h)
    exact ⟨⟨p.s, p.l, p.b, Nat.le_trans p.d (by decide)⟩, cz_noF (show cz (.dict kvs) = true from h)⟩
structure Val (d : D) : Prop where
  v : vz d = true
  s : sz d ≤ 9000
theorem Val.rg {d : D} (h : Val d) : rG d = true := by
  obtain ⟨p, nf⟩ := vz_pf h.v
  have hs := h.s
  have hb := p.b
  have hd := p.d
  have sl := PyData.shown_le_bulk 41 (by decide) d p.l
  have z : d.shown.length ≤ sizeLine := by
    rw [sizeLine_eq]
    omega
  unfold rG
  rw [p.s, nf, decide_eq_true (show d.depth ≤ 100 by omega), decide_eq_true z]
  rfl
theorem le_sz {ds : List D} (h : szs ds ≤ 9000) : ds.length ≤ sizeLine := le_size (by have := len_szs ds; omega)
end My
namespace My
open PySem PySem.Spec PyProof.Rows L2 DL
/-! polys, doubles, bases -/
def zeroD : D → Bool
  | .int i => i == 0
  | _ => false
def emptyD : D → Bool
  | .list [] => true
  | _ => false
def lastB (P : D → Bool) (ds : List D) : Bool := match ds.getLast? with
  | some d => !P d
  | none => true
def polyB (d : D) : Bool := match d with
  | .list ds => ds.all wholeB && lastB zeroD ds
  | _ => false
def doubleB (d : D) : Bool := match d with
  | .list ds => ds.all polyB && lastB emptyD ds
  | _ => false
theorem polyB_list {ds : List D} : polyB (.list ds) = (ds.all wholeB && lastB zeroD ds) := rfl
theorem doubleB_list {ds : List D} : doubleB (.list ds) = (ds.all polyB && lastB emptyD ds) := rfl
theorem ix_last {ds : List D} {x : D} : dIx (.list (ds ++ [x])) (.int (-1)) = some (.dat x) := by
  show (atI (ds ++ [x]) (-1)).map Rv.dat = _
  have e : ixN (ds ++ [x]).length (-1) = some ds.length := by
    unfold ixN
    simp
    omega
  unfold atI
  rw [e]
  simp
theorem last_cases (ds : List D) : ds = [] ∨ ∃ r x, ds = r ++ [x] := by
  rcases List.eq_nil_or_concat ds with h | ⟨r, x, h⟩
  · exact .inl h
  · exact .inr ⟨r, x, by rw [h, List.concat_eq_append]⟩
theorem lastB_app {P : D → Bool} {r : List D} {x : D} : lastB P (r ++ [x]) = !P x := by
  unfold lastB
  simp
theorem poly_plain {d : D} (h : polyB d = true) : d.plain = true := by
  cases d with
  | list ds =>
    obtain ⟨h1, _⟩ := Bool.and_eq_true_iff.mp (show (ds.all wholeB && lastB zeroD ds) = true from h)
    refine plain_all.mpr fun x hx => ?_
    rcases int_or x with ⟨i, rfl⟩ | z
    · rfl
    · rw [List.all_eq_true.mp h1 x hx] at z
      cases z
  | _ => cases h
theorem whole_plain {ds : List D} (h : ds.all wholeB = true) : PyData.plainAll ds = true := plain_all.mpr fun x hx => by
  rcases int_or x with ⟨i, rfl⟩ | z
  · rfl
  · rw [List.all_eq_true.mp h x hx] at z
    cases z
theorem app_ne {r : List D} {x : D} : (r ++ [x]).isEmpty = false := by cases r <;> rfl
theorem is_poly_eq {d : D} {cs : Cs} (hz : ∀ ds, d = .list ds → ds.length ≤ sizeLine) : m_is_poly [.dat d] cs = some (db (polyB d), cs) := by
  refine em_eq ?_
  unfold m_is_poly
  rw [em_fnM]
  unfold b_is_poly
  cases d with
  | list ds =>
    have hz := hz ds rfl
    simp [isi_list]
    refine ec_pure (fun _ => true) (fun x => .bool (wholeB x)) (fun x hx cs' => ?_) (by simpa using hz) ?_
    · simp [wipeR]
      refine em_of is_whole_eq ?_
      simp
    · rw [List.nil_append, List.filter_eq_self.mpr (fun _ _ => rfl), allB hz]
      cases hf : ds.all wholeB with
      | false => simp [polyB, hf]
      | true =>
        simp [dEq_nil (whole_plain hf), dNeg_int]
        rcases last_cases ds with rfl | ⟨r, x, rfl⟩
        · simp [polyB, lastB]
        · have hx := List.all_eq_true.mp hf x (by simp)
          rcases int_or x with ⟨i, rfl⟩ | z
          · simp [ix_last, app_ne, fdNe_int]
            rw [polyB_list, hf, lastB_app]
            simp [zeroD]
          · rw [hx] at z; cases z
  | dict kvs =>
    rw [show polyB (.dict kvs) = false from rfl]
    simp [isi_list]
  | _ => simp [isi_list, polyB]
theorem lis_poly_eq {d : D} {cs : Cs} (hz : ∀ ds, d = .list ds → ds.length ≤ sizeLine ∧ PyData.plainAll ds = true) : m__law_is_poly [.dat d] cs = some (db (polyB d), cs) := by
  refine em_eq ?_
  unfold m__law_is_poly
  rw [em_fnM]
  unfold b__law_is_poly
  cases d with
  | list ds =>
    obtain ⟨hz, hp⟩ := hz ds rfl
    simp [isi_list]
    refine ec_pure (fun x => !wholeB x) id (fun x hx cs' => ?_) (by simpa using hz) ?_
    · simp [wipeR]
      refine em_of lwhole_eq ?_
      simp
    · rw [List.nil_append, List.map_id, dNe_nil (plain_filter hp)]
      cases hf : ds.all wholeB with
      | false =>
        have : (ds.filter fun x => !wholeB x) ≠ [] := fun e => by
          have z : ds.all wholeB = true := List.all_eq_true.mpr fun d hd => by
            cases q : wholeB d with
            | true => rfl
            | false =>
              have : d ∈ ds.filter fun x => !wholeB x := List.mem_filter.mpr ⟨hd, by rw [q]; rfl⟩
              rw [e] at this
              cases this
          rw [hf] at z
          cases z
        have : (ds.filter fun x => !wholeB x).isEmpty = false := by simpa using this
        simp [this, polyB, hf]
      | true =>
        have : (ds.filter fun x => !wholeB x) = [] := List.filter_eq_nil_iff.mpr fun d hd => by rw [List.all_eq_true.mp hf d hd]; decide
        rw [this]
        simp [dEq_nil (whole_plain hf), dNeg_int]
        rcases last_cases ds with rfl | ⟨r, x, rfl⟩
        · simp [polyB, lastB]
        · have hx := List.all_eq_true.mp hf x (by simp)
          rcases int_or x with ⟨i, rfl⟩ | z
          · simp [ix_last, app_ne, fdNe_int]
            rw [polyB_list, hf, lastB_app]
            simp [zeroD]
          · rw [hx] at z; cases z
  | dict kvs =>
    rw [show polyB (.dict kvs) = false from rfl]
    simp [isi_list]
  | _ => simp [isi_list, polyB]
theorem poly_list {d : D} (h : polyB d = true) : ∃ ds, d = .list ds := by
  cases d with
  | list ds => exact ⟨ds, rfl⟩
  | _ => cases h
theorem emptyD_list {ds : List D} : emptyD (.list ds) = ds.isEmpty := by cases ds <;> rfl
theorem polys_plain {ds : List D} (h : ds.all polyB = true) : PyData.plainAll ds = true := plain_all.mpr fun x hx => poly_plain (List.all_eq_true.mp h x hx)
theorem is_double_eq {d : D} {cs : Cs} (hz : ∀ ds, d = .list ds → ds.length ≤ sizeLine ∧ ∀ x ∈ ds, ∀ es, x = .list es → es.length ≤ sizeLine) : m_is_double [.dat d] cs = some (db (doubleB d), cs) := by
  refine em_eq ?_
  unfold m_is_double
  rw [em_fnM]
  unfold b_is_double
  cases d with
  | list ds =>
    obtain ⟨hz, hx⟩ := hz ds rfl
    simp [isi_list]
    refine ec_pure (fun _ => true) (fun x => .bool (polyB x)) (fun x hx' cs' => ?_) (by simpa using hz) ?_
    · simp [wipeR]
      refine em_of (is_poly_eq (hx x hx')) ?_
      simp
    · rw [List.nil_append, List.filter_eq_self.mpr (fun _ _ => rfl), allB hz]
      cases hf : ds.all polyB with
      | false => simp [doubleB, hf]
      | true =>
        simp [dEq_nil (polys_plain hf), dNeg_int]
        rcases last_cases ds with rfl | ⟨r, x, rfl⟩
        · simp [doubleB, lastB]
        · have hx := List.all_eq_true.mp hf x (by simp)
          obtain ⟨es, rfl⟩ := poly_list hx
          simp [ix_last, app_ne, dNe_nil (show PyData.plainAll es = true from poly_plain hx)]
          rw [doubleB_list, hf, lastB_app, emptyD_list]
          simp
  | dict kvs =>
    rw [show doubleB (.dict kvs) = false from rfl]
    simp [isi_list]
  | _ => simp [isi_list, doubleB]
def baseB (d : D) : Bool := fracB d && match d with
  | .tuple [.int p, _] => !(p == 0)
  | _ => false
def formB (d : D) : Bool := match d with
  | .tuple [.str w, dp, b1, b2, fs] => (w == ("double" : Str)) && (doubleB dp && facsB fs && (baseB b1 && baseB b2))
  | _ => false
theorem ix5_0 {a b c d e : D} : dIx (.tuple [a, b, c, d, e]) (.int 0) = some (.dat a) := rfl
theorem ix5_1 {a b c d e : D} : dIx (.tuple [a, b, c, d, e]) (.int 1) = some (.dat b) := rfl
theorem ix5_2 {a b c d e : D} : dIx (.tuple [a, b, c, d, e]) (.int 2) = some (.dat c) := rfl
theorem ix5_3 {a b c d e : D} : dIx (.tuple [a, b, c, d, e]) (.int 3) = some (.dat d) := rfl
theorem ix5_4 {a b c d e : D} : dIx (.tuple [a, b, c, d, e]) (.int 4) = some (.dat e) := rfl
theorem sl5_24 {a b c d e : D} : dSl (.tuple [a, b, c, d, e]) (some 2) (some 4) = some (.dat (.tuple [c, d])) := rfl
theorem len5 {ds : List D} (h : ds.length = 5) : ∃ a b c d e, ds = [a, b, c, d, e] := by
  match ds, h with
  | [a, b, c, d, e], _ => exact ⟨a, b, c, d, e, rfl⟩
theorem form5 (ds : List D) : (∃ a b c d e, ds = [a, b, c, d, e]) ∨ ((((ds.length : Nat) : Int) == 5) = false ∧ formB (.tuple ds) = false) := by
  by_cases h : ds.length = 5
  · exact .inl (len5 h)
  · refine .inr ⟨by rw [beq_eq_false_iff_ne]; omega, ?_⟩
    unfold formB
    split
    · rename_i e
      cases e
      exact absurd rfl h
    · rfl
theorem str_or (d : D) : (∃ x, d = .str x) ∨ (match d with | .str _ => true | _ => false) = false := by cases d <;> first | exact .inl ⟨_, rfl⟩ | exact .inr rfl
def isS' : D → Bool
  | .str _ => true
  | _ => false
theorem isi_S (d : D) : dIsi "str" d = some (db (isS' d)) := by
  rw [isi_str]
  cases d <;> rfl
theorem strD_or (d : D) : (∃ x, d = .str x) ∨ isS' d = false := by cases d <;> first | exact .inl ⟨_, rfl⟩ | exact .inr rfl
theorem form_nostr {a b c d e : D} (h : isS' a = false) : formB (.tuple [a, b, c, d, e]) = false := by
  cases a <;> first | rfl | cases h
theorem base_fr {b : D} (h : fracB b = true) : ∃ p q : Int, b = .tuple [.int p, .int q] ∧ baseB b = !(p == 0) := by
  obtain ⟨p, q, rfl, _, _⟩ := frac_form h
  refine ⟨p, q, rfl, ?_⟩
  unfold baseB
  rw [h]
  rfl
/-- the parts of a value that is judged -/
structure DOk (dp fs : D) : Prop where
  d : ∀ ds, dp = .list ds → ds.length ≤ sizeLine ∧ PyData.plainAll ds = true ∧ ∀ x ∈ ds, ∀ es, x = .list es → es.length ≤ sizeLine ∧ PyData.plainAll es = true
  f : ∀ ds, fs = .list ds → ds.length ≤ sizeLine ∧ PyData.plainAll ds = true ∧ ∀ x ∈ ds, FOk x
theorem has_eq {v : D} {cs : Cs} (h : ∀ a b c d e, v = .tuple [a, b, c, d, e] → DOk b e) : m_has_double_form [.dat v] cs = some (db (formB v), cs) := by
  refine em_eq ?_
  unfold m_has_double_form
  rw [em_fnM]
  unfold b_has_double_form
  cases v with
  | tuple ds =>
    rcases form5 ds with ⟨a, b, c, d, e, rfl⟩ | ⟨h1, h2⟩
    · have ok := h a b c d e rfl
      simp [isi_tuple, dLen, fdNe_int, ix5_0, ix5_1, ix5_4, isi_S]
      rcases strD_or a with ⟨w, rfl⟩ | ha
      · simp [isS', dNe_str]
        cases hw : (w == ("double" : Str)) with
        | false =>
          have : formB (.tuple [.str w, b, c, d, e]) = false := by
            show ((w == ("double" : Str)) && _) = false
            rw [hw]
            rfl
          have hw' : ¬ w = ("double" : Str) := beq_eq_false_iff_ne.mp hw
          simp [this, hw']
        | true =>
          have hw' : w = ("double" : Str) := beq_iff_eq.mp hw
          subst hw'
          simp
          refine em_of (is_double_eq fun ds e => ⟨(ok.d ds e).1, fun x hx es he => ((ok.d ds e).2.2 x hx es he).1⟩) ?_
          have fe : formB (.tuple [.str "double", b, c, d, e]) = (doubleB b && facsB e && (baseB c && baseB d)) := by
            show ((("double" : Str) == ("double" : Str)) && _) = _
            rw [hw]
            rfl
          cases hb : doubleB b with
          | false => simp [fe, hb]
          | true =>
            simp
            refine em_of (are_eq fun ds e => (ok.f ds e).1) ?_
            cases hf : facsB e with
            | false => simp [fe, hb, hf]
            | true =>
              simp [sl5_24]
              refine ec_pure (fun _ => true) (fun x => .bool (baseB x)) (fun x hx cs' => ?_) (le_size (by show 0 + 2 ≤ _; decide)) ?_
              · simp [wipeR]
                refine em_of is_fraction_eq ?_
                cases hr : fracB x with
                | false => simp [baseB, hr]
                | true =>
                  obtain ⟨p, q, rfl, hb⟩ := base_fr hr
                  simp [dIx_t0, fdNe_int, hb]
              · rw [List.nil_append, List.filter_eq_self.mpr (fun _ _ => rfl), allB (le_size (by show 2 ≤ _; decide))]
                simp [fe, hb, hf]
      · simp [ha, form_nostr ha]
    · simp [isi_tuple, dLen, fdNe_int, h1, h2]
  | dict kvs =>
    rw [show formB (.dict kvs) = false from rfl]
    simp [isi_tuple]
  | _ => simp [isi_tuple, formB]
end My
namespace My
open PySem PySem.Spec PyProof.Rows L2 DL
theorem pz_int {n : Nat} {i : Int} (h : pz n (.int i) = true) : tl (.int i) = true := by cases n <;> exact h
theorem tl_big {i : Int} (h : tl (.int i) = true) : i.natAbs < 2 ^ 8000 := Nat.lt_trans (of_decide_eq_true h) (by decide +kernel)
theorem smF_pz {n : Nat} {d : D} (h : pz n d = true) : smF d := by
  rintro p q rfl
  cases n with
  | zero => cases h
  | succ n =>
    rw [pz_tuple] at h
    simp at h
    exact ⟨tl_big (pz_int h.1), tl_big (pz_int h.2)⟩
theorem fok_pz {n : Nat} {d : D} (h : pz n d = true) : FOk d := by
  refine ⟨fun a b c e => ?_, fun a b c e => ?_⟩
  · subst e
    cases n with
    | zero => cases h
    | succ n =>
      rw [pz_tuple] at h
      simp at h
      exact smF_pz h.1
  · subst e
    cases n with
    | zero => cases h
    | succ n =>
      rw [pz_tuple] at h
      simp at h
      exact pz_plain n b h.2.1
theorem cz_list {ds : List D} (h : cz (.list ds) = true) : pz 6 (.list ds) = true := by
  rcases Bool.or_eq_true_iff.mp h with z | z
  · cases z
  · exact z
theorem dok_of {b e : D} (hb : cz b = true) (he : cz e = true) (sb : sz b ≤ 9000) (se : sz e ≤ 9000) : DOk b e := by
  refine ⟨fun ds e' => ?_, fun ds e' => ?_⟩
  · subst e'
    have p := cz_list hb
    rw [sz_list] at sb
    have pl := pz_plain 6 _ p
    rw [pz_list] at p
    refine ⟨le_sz (by omega), pl, fun x hx es ex => ?_⟩
    subst ex
    have px := List.all_eq_true.mp p _ hx
    have sx := mem_szs hx
    rw [sz_list] at sx
    exact ⟨le_sz (by omega), pz_plain 5 _ px⟩
  · subst e'
    have p := cz_list he
    rw [sz_list] at se
    have pl := pz_plain 6 _ p
    rw [pz_list] at p
    exact ⟨le_sz (by omega), pl, fun x hx => fok_pz (List.all_eq_true.mp p x hx)⟩
theorem cdt_bad {v : D} {cs : Cs} (h : ∀ a b c d e, v = .tuple [a, b, c, d, e] → DOk b e) (hf : formB v = false) : m_check_double_term [.dat v] cs = some (.ex "InvalidSum" v cs) := by
  refine emx_eq ?_
  unfold m_check_double_term
  rw [emx_fnX]
  unfold b_check_double_term
  simp
  refine em_of (has_eq h) ?_
  simp [hf]
theorem cdt_ok {v : D} {cs : Cs} (h : ∀ a b c d e, v = .tuple [a, b, c, d, e] → DOk b e) (hf : formB v = true) : m_check_double_term [.dat v] cs = some (.ok (.dat .none) cs) := by
  refine emx_eq ?_
  unfold m_check_double_term
  rw [emx_fnX]
  unfold b_check_double_term
  simp
  refine em_of (has_eq h) ?_
  simp [hf]
def countB (d : D) : Bool := match d with
  | .int i => decide (0 ≤ i)
  | _ => false
theorem cn_bad {d : D} {cs : Cs} (h : countB d = false) : m_check_number [.dat d] cs = some (.ex "InvalidNumber" d cs) := by
  refine emx_eq ?_
  unfold m_check_number
  rw [emx_fnX]
  unfold b_check_number m_is_count
  simp
  rw [em_fnM]
  unfold b_is_count
  simp
  refine em_of is_whole_eq ?_
  rcases int_or d with ⟨i, rfl⟩ | z
  · have : ¬ 0 ≤ i := by simpa [countB] using h
    simp [wholeB, dGe_int, this]
  · simp [z]
theorem subS1 : subN "InvalidSum" "SameError" = true := by decide +kernel
theorem subS2 : subN "InvalidSum" "InvalidSum" = true := by decide +kernel
theorem subS3 : subN "InvalidSum" "InvalidNumber" = false := by decide +kernel
theorem subN1 : subN "InvalidNumber" "SameError" = true := by decide +kernel
theorem subN2 : subN "InvalidNumber" "InvalidSum" = false := by decide +kernel
theorem subN3 : subN "InvalidNumber" "InvalidNumber" = true := by decide +kernel

section
variable {fs : List Fc} {ps : List (List Int)} {p1 q1 p2 q2 n k : Int}
theorem dvin_cut {cs : Cs} (h : Fcs fs) (hn : n.natAbs ≤ 1000) (hk : k.natAbs ≤ 1000) (hc : cutB fs n k = true) : m_double_value_in [.dat (dbl fs ps p1 q1 p2 q2), .dat (.int n), .dat (.int k)] cs = some (.dat (.tuple [.int 0, .int 1]), cs) := by
  refine em_eq ?_
  unfold m_double_value_in
  rw [em_fnM]
  unfold b_double_value_in dbl
  have two : 2 ≤ sizeLine := two_fit
  simp [ix5_1, ix5_4]
  have e0 : dEq (dpD ps) (.list []) = some (db ps.isEmpty) := by
    unfold dpD
    rw [dEq_nil ps_plain]
    cases ps <;> rfl
  rw [e0]
  cases hp : ps.isEmpty with
  | true => simp [two]
  | false =>
    simp
    refine em_of (cut_far h hn hk) ?_
    simp [hc, two]
structure Ev2 (fs : List Fc) (ps : List (List Int)) (p1 q1 p2 q2 n k : Int) : Prop where
  x : Ex fs n k
  d : Dp ps
  b1 : Bs p1 q1
  b2 : Bs p2 q2
  w : sumM n k fs ≤ 700
theorem hvn_c (h : Dp ps) (hn : n.natAbs ≤ 16) : ∀ c ∈ ps.map (hv n), c.natAbs < 2 ^ 24 := hvn_b h hn
theorem wOf_c (h : Dp ps) (hn : n.natAbs ≤ 16) (hk : k.natAbs ≤ 60) : (wOf ps n k).natAbs < 2 ^ 52 := by
  have := hv_c (x := k) (B := 24) (by omega) (by decide) (hvn_b h hn)
  rw [List.length_map] at this
  exact pow_le this (by have := h.l; omega)
theorem prod_fine (h : Ev2 fs ps p1 q1 p2 q2 n k) : (prod n k fs).1.natAbs < 2 ^ 7020 ∧ (prod n k fs).2.natAbs < 2 ^ 7020 := by
  obtain ⟨h1, h2⟩ := stp_c (t := (1, 1)) (s := 1) h.x.all (by decide) (by decide)
  have := h.w
  have := h.x.f.1
  exact ⟨pow_le h1 (by omega), pow_le h2 (by omega)⟩
theorem dvin_far {cs : Cs} (h : Ev2 fs ps p1 q1 p2 q2 n k) (hc : cutB fs n k = false) (hb : fs.any (bad n k) = false) : ∃ d, m_double_value_in [.dat (dbl fs ps p1 q1 p2 q2), .dat (.int n), .dat (.int k)] cs = some (.dat d, cs) ∧ ∃ a b, d = .tuple [.int a, .int b] := by
  suffices q : ∃ z, m_double_value_in [.dat (dbl fs ps p1 q1 p2 q2), .dat (.int n), .dat (.int k)] cs = some (z, cs) ∧ ∃ a b, z = .dat (.tuple [.int a, .int b]) by
    obtain ⟨z, e, a, b, rfl⟩ := q
    exact ⟨_, e, a, b, rfl⟩
  refine em_exi ?_
  unfold m_double_value_in
  rw [em_fnM]
  unfold b_double_value_in dbl
  have two : 2 ≤ sizeLine := two_fit
  have n16 := h.x.n
  have k60 := h.x.k
  simp [ix5_1, ix5_2, ix5_3, ix5_4]
  have e0 : dEq (dpD ps) (.list []) = some (db ps.isEmpty) := by
    unfold dpD
    rw [dEq_nil ps_plain]
    cases ps <;> rfl
  rw [e0]
  have hb' : ∀ f ∈ fs, bad n k f = false := fun f hf => by
    have := List.any_eq_false.mp hb f hf
    simpa using this
  have tn : (tot fs ps p1 q1 p2 q2 n k).2 ≠ 0 := Int.mul_ne_zero (Int.mul_ne_zero (prod_nz h.x.f.2 hb' (by decide)) (pw_nz h.b1).2) (pw_nz h.b2).2
  cases hp : ps.isEmpty with
  | true => simp [two]
  | false =>
    simp
    refine em_of (cut_far h.x.f (by omega) (by omega)) ?_
    simp [hc]
    refine em_of (fw_far h.x) ?_
    simp
    refine em_of (pparts_eq h.b1 (by omega)) ?_
    simp [ix5_3]
    refine em_of (pparts_eq h.b2 (by omega)) ?_
    simp [ix5_1]
    obtain ⟨r, er, hr⟩ := wop_eq (cs := cs) h.d n16
    refine em_of er ?_
    simp
    have hw : hv k ((ps.map (hv n)).take r) = wOf ps n k := by
      have := hv_app0 (x := k) (l := (ps.map (hv n)).take r) hr
      rw [List.take_append_drop] at this
      exact this.symm
    have we := worth_far (l := (ps.map (hv n)).take r) (x := k) (B := 24) (cs := cs) (by omega) (by decide) (fun c hc => hvn_b h.d n16 c (List.mem_of_mem_take hc)) (by
      have := h.d.l
      rw [List.length_take, List.length_map]
      omega)
    rw [hw] at we
    unfold iL at we
    simp [List.map_take] at we
    refine em_of we ?_
    obtain ⟨f1, f2⟩ := prod_fine h
    obtain ⟨u1, u2⟩ := pw_b (m := n) h.b1 (by omega)
    obtain ⟨v1, v2⟩ := pw_b (m := k) h.b2 (by omega)
    have w1 := wOf_c h.d n16 k60
    have c1 : CMl (wOf ps n k) (prod n k fs).1 := cml 52 7020 w1 f1
    have c2 : CMl (wOf ps n k * (prod n k fs).1) (pw p1 q1 n).1 := cml (52 + 7020) 121 (lg_mul w1 f1) u1
    have c3 : CMl (wOf ps n k * (prod n k fs).1 * (pw p1 q1 n).1) (pw p2 q2 k).1 := cml (52 + 7020 + 121) 121 (lg_mul (lg_mul w1 f1) u1) v1
    have c4 : CMl (prod n k fs).2 (pw p1 q1 n).2 := cml 7020 121 f2 u2
    have c5 : CMl ((prod n k fs).2 * (pw p1 q1 n).2) (pw p2 q2 k).2 := cml (7020 + 121) 121 (lg_mul f2 u2) v2
    simp [dMul_int c1, dMul_int c2, dMul_int c3, dMul_int c4, dMul_int c5]
    refine em_of (lowest_eq tn (pow_le (lg_mul (lg_mul f2 u2) v2) (by decide))) ?_
    simp
/-- a value there is, by the program -/
theorem dval_cut {cs : Cs} (h : Fcs fs) (ok : ∀ a b c d e, dbl fs ps p1 q1 p2 q2 = .tuple [a, b, c, d, e] → DOk b e) (hf : formB (dbl fs ps p1 q1 p2 q2) = true) (hn0 : 0 ≤ n) (hn : n.natAbs ≤ 1000) (hk : k.natAbs ≤ 1000) (hc : cutB fs n k = true) :
    m_double_value [.dat (dbl fs ps p1 q1 p2 q2), .dat (.int n), .dat (.int k)] cs = some (.dat (.tuple [.int 0, .int 1]), cs) := by
  refine em_eq ?_
  unfold m_double_value
  rw [em_fnM]
  unfold b_double_value
  simp
  refine em_of (okM_of (cdt_ok ok hf)) ?_
  refine em_of (okM_of (count_eq hn0)) ?_
  refine em_of is_whole_eq ?_
  have e4 : dIx (dbl fs ps p1 q1 p2 q2) (.int 4) = some (.dat (dOf fs)) := rfl
  simp [wholeB, e4]
  refine em_of (cut_far h hn hk) ?_
  simp [hc]
  refine em_of (dvin_cut h hn hk hc) ?_
  simp
theorem dval_far {cs : Cs} (h : Ev2 fs ps p1 q1 p2 q2 n k) (ok : ∀ a b c d e, dbl fs ps p1 q1 p2 q2 = .tuple [a, b, c, d, e] → DOk b e) (hf : formB (dbl fs ps p1 q1 p2 q2) = true) (hn0 : 0 ≤ n) :
    ∃ d, m_double_value [.dat (dbl fs ps p1 q1 p2 q2), .dat (.int n), .dat (.int k)] cs = some (.dat d, cs) ∧ (d = .none ∨ ∃ a b, d = .tuple [.int a, .int b]) := by
  have n16 := h.x.n
  have k60 := h.x.k
  cases hc : cutB fs n k with
  | true => exact ⟨_, dval_cut h.x.f ok hf hn0 (by omega) (by omega) hc, .inr ⟨_, _, rfl⟩⟩
  | false =>
    suffices q : ∃ z, m_double_value [.dat (dbl fs ps p1 q1 p2 q2), .dat (.int n), .dat (.int k)] cs = some (z, cs) ∧ ∃ d, z = .dat d ∧ (d = .none ∨ ∃ a b, d = .tuple [.int a, .int b]) by
      obtain ⟨z, e, d, rfl, hd⟩ := q
      exact ⟨d, e, hd⟩
    refine em_exi ?_
    unfold m_double_value
    rw [em_fnM]
    unfold b_double_value
    simp
    refine em_of (okM_of (cdt_ok ok hf)) ?_
    refine em_of (okM_of (count_eq hn0)) ?_
    refine em_of is_whole_eq ?_
    have e4 : dIx (dbl fs ps p1 q1 p2 q2) (.int 4) = some (.dat (dOf fs)) := rfl
    simp [wholeB, e4]
    refine em_of (cut_far h.x.f (by omega) (by omega)) ?_
    simp [hc]
    refine em_of (there_far h.x.f (by omega) (by omega)) ?_
    have bt := bad_there h.x.f hc
    cases ht : thereB fs n k with
    | false => simp
    | true =>
      rw [ht] at bt
      simp
      obtain ⟨d, e, a, b, rfl⟩ := dvin_far (cs := cs) h hc bt
      refine em_of e ?_
      simp
end
end My
namespace My
open PySem PySem.Spec PyProof.Rows L2 DL
/-! draws -/
theorem cutD_m1 {ds : List D} : DL.cutD ds none (some (-1)) = ds.dropLast := by
  unfold DL.cutD
  have e1 : HT.sIx ds.length 0 none = 0 := rfl
  have e2 : HT.sIx ds.length ds.length (some (-1)) = ds.length - 1 := by
    unfold HT.sIx
    simp
    omega
  rw [e1, e2, List.dropLast_eq_take]
  simp
theorem dSl_m1 {ds : List D} : dSl (.list ds) none (some (-1)) = some (.fr ds.dropLast) := by
  show some (Rv.fr (DL.cutD ds none (some (-1)))) = _
  rw [cutD_m1]
theorem dl_app {r : List D} {x : D} : (r ++ [x]).dropLast = r := by simp
/-- the ends cut off -/
theorem cut_step {P : D → Bool} {ds found : List D} {r i : Nat} (hr : r ≤ ds.length) (hf : found = ds.take r) (h : lastB P found = true ∨ r ≤ ds.length - i) :
    (found = [] ∧ lastB P found = true) ∨ (∃ y x, found = y ++ [x] ∧ x ∈ ds ∧ (P x = false ∧ lastB P found = true ∨ P x = true ∧ ∃ r', r' ≤ ds.length ∧ y = ds.take r' ∧ r' ≤ ds.length - (i + 1))) := by
  rcases last_cases found with e | ⟨y, x, e⟩
  · left
    rw [e]
    exact ⟨rfl, rfl⟩
  · right
    have hx : x ∈ ds := by
      have : x ∈ found := by rw [e]; simp
      rw [hf] at this
      exact List.mem_of_mem_take this
    refine ⟨y, x, e, hx, ?_⟩
    cases hp : P x with
    | false =>
      left
      exact ⟨rfl, by rw [e, lastB_app, hp]; rfl⟩
    | true =>
      right
      have l1 : lastB P found = false := by rw [e, lastB_app, hp]; rfl
      have h2 : r ≤ ds.length - i := by
        rcases h with q | q
        · rw [l1] at q; cases q
        · exact q
      have len : found.length = r := by rw [hf, List.length_take]; omega
      have len2 : found.length = y.length + 1 := by rw [e]; simp
      refine ⟨rfl, y.length, by omega, ?_, by omega⟩
      have : y = found.take y.length := by rw [e]; simp
      rw [hf, List.take_take] at this
      rw [show min y.length r = y.length by omega] at this
      exact this
theorem em_ex {m : MF} {rs : List Rv} {cs : Cs} {P : Rv → Prop} (h : Em m rs cs fun z c => P z ∧ c = cs) : ∃ z, m rs cs = some (z, cs) ∧ P z := by
  obtain ⟨z, c, e, h1, rfl⟩ := wpo_iff.mp h
  exact ⟨z, e, h1⟩
theorem lcut_ex {l : List Int} {cs : Cs} (hl : l.length ≤ 100) : ∃ z, m__law_cut [.dat (iL l)] cs = some (z, cs) ∧ ∃ r, z = .dat (iL (l.take r)) ∧ lastB zeroD ((l.take r).map .int) = true := by
  refine em_ex ?_
  unfold m__law_cut
  rw [em_fnM]
  unfold b__law_cut iL
  simp [dList, dLen]
  refine ⟨sm_of (by omega), ?_⟩
  refine el_inv (k := 0) (fun i ρ cs' => cs' = cs ∧ ∃ v2 found r, ρ = [some (.dat (.list (l.map .int))), some (.dat (.list found)), v2] ∧ r ≤ l.length ∧ found = (l.map PyData.int).take r ∧ (lastB zeroD found = true ∨ r ≤ l.length - i)) ⟨rfl, none, l.map .int, l.length, rfl, Nat.le_refl _, by rw [List.take_of_length_le (by simp)], .inr (by omega)⟩ ?_ ?_
  · rintro i d ρ cs' hd ⟨rfl, v2, found, r, rfl, hr, hf, hz⟩
    rw [Nat.zero_add] at *
    have pl : PyData.plainAll found = true := by
      rw [hf]
      refine plain_all.mpr fun x hx => ?_
      obtain ⟨c, _, rfl⟩ := List.mem_map.mp (List.mem_of_mem_take hx)
      rfl
    rcases cut_step (P := zeroD) (ds := l.map .int) (i := i) (by simpa using hr) hf (by simpa using hz) with ⟨e, hz'⟩ | ⟨y, x, e, hx, q⟩
    · subst e
      simp [dNe_nil (l := []) rfl]
      exact ⟨_, _, ⟨rfl, rfl⟩, r, hr, by simpa using hf, .inl hz'⟩
    · obtain ⟨c, _, rfl⟩ := List.mem_map.mp hx
      simp [dNe_nil pl, dNeg_int, dSl_m1]
      rw [e]
      simp [app_ne, ix_last, fdEq_int]
      rcases q with ⟨q1, q2⟩ | ⟨q1, r', h1, h2, h3⟩
      · have c0 : ¬ c = 0 := by simpa [zeroD] using q1
        simp [c0]
        rw [← e]
        exact ⟨_, _, ⟨rfl, rfl⟩, r, hr, hf, .inl q2⟩
      · have c0 : c = 0 := by simpa [zeroD] using q1
        simp [c0]
        exact ⟨_, _, ⟨rfl, rfl⟩, r', by simpa using h1, by simpa using h2, .inr (by simpa using h3)⟩
  · rintro ρ cs' ⟨rfl, v2, found, r, rfl, hr, hf, hz⟩
    rw [rng_len, Nat.zero_add] at hz
    have hz' : lastB zeroD found = true := by
      rcases hz with q | q
      · exact q
      · have : r = 0 := by
          simp at q
          omega
        rw [hf, this]
        rfl
    simp
    refine ⟨r, ?_, ?_⟩
    · first | exact hf | (unfold iL; rw [List.map_take, ← hf])
    · rw [hf] at hz'
      simpa using hz'
structure Pl (l : List Int) : Prop where
  n : l.length ≤ 3
  c : ∀ c ∈ l, c.natAbs ≤ 3
  p : polyB (iL l) = true
theorem whole_ints {l : List Int} : (l.map PyData.int).all wholeB = true := List.all_eq_true.mpr fun x hx => by
  obtain ⟨c, _, rfl⟩ := List.mem_map.mp hx
  rfl
theorem ints_of {n : Nat} : ∀ {ds : List D}, (∀ d ∈ ds, ∃ c : Int, d = .int c ∧ c.natAbs ≤ n) → ∃ l : List Int, ds = l.map .int ∧ ∀ c ∈ l, c.natAbs ≤ n
  | [], _ => ⟨[], rfl, by simp⟩
  | d :: ds, h => by
    obtain ⟨c, rfl, hc⟩ := h d (List.mem_cons_self ..)
    obtain ⟨l, rfl, hl⟩ := ints_of fun x hx => h x (List.mem_cons_of_mem _ hx)
    exact ⟨c :: l, rfl, fun x hx => by
      rcases List.mem_cons.mp hx with rfl | hx
      · exact hc
      · exact hl x hx⟩
def toI : D → Int
  | .int i => i
  | _ => 0
theorem toI_eq {n : Nat} : ∀ {ds : List D}, (∀ d ∈ ds, ∃ c : Int, d = .int c ∧ c.natAbs ≤ n) → ds = (ds.map toI).map .int ∧ ∀ c ∈ ds.map toI, c.natAbs ≤ n
  | [], _ => ⟨rfl, by simp⟩
  | d :: ds, h => by
    obtain ⟨c, rfl, hc⟩ := h d (List.mem_cons_self ..)
    have ih := toI_eq fun x hx => h x (List.mem_cons_of_mem _ hx)
    refine ⟨?_, fun x hx => ?_⟩
    · rw [List.map_cons, List.map_cons, ← ih.1]
      rfl
    · rcases List.mem_cons.mp hx with rfl | hx
      · exact hc
      · exact ih.2 x hx
theorem cut_pl {ds : List D} {cs : Cs} (h : ∀ d ∈ ds, ∃ c : Int, d = .int c ∧ c.natAbs ≤ 3) (hn : ds.length ≤ 3) : ∃ l, m__law_cut [.dat (.list ds)] cs = some (.dat (iL l), cs) ∧ Pl l := by
  obtain ⟨e1, e2⟩ := toI_eq h
  obtain ⟨z, e3, r, rfl, e4⟩ := lcut_ex (l := ds.map toI) (cs := cs) (by rw [List.length_map]; omega)
  refine ⟨(ds.map toI).take r, ?_, by rw [List.length_take, List.length_map]; omega, fun c hc => e2 c (List.mem_of_mem_take hc), ?_⟩
  · rw [← e3]
    unfold iL
    rw [← e1]
  · unfold iL
    rw [polyB_list, whole_ints, e4]
    rfl
theorem poly_em {k : Nat} {b g : Int} {cs : Cs} {c : List D} {Q : Rv → Cs → Prop} (hc : cs[k]? = some (some c)) (hg : Gs b c) (hb : b + 1000 ≤ 10 ^ 20) (h0 : 0 ≤ g) (h1 : g ≤ 2) (h : ∀ (l : List Int) (c' : List D), Pl l → Gs (b + 1000) c' → Q (.dat (iL l)) (cs.set k (some c'))) : Em m__law_poly [.own k, .dat (.int g)] cs Q := by
  unfold m__law_poly
  rw [em_fnM]
  unfold b__law_poly
  simp [dAdd_int]
  refine random_em hc hg (by omega) (by omega) (by omega) fun r c1 r0 r1 g1 => ?_
  simp
  refine ⟨by constructor <;> omega, ?_⟩
  refine draws (n := r.toNat) (w := 100) (P := fun d => ∃ c : Int, d = .int c ∧ c.natAbs ≤ 3) (get_set hc) g1 (by omega) (by omega) (fun x b' cs' c' Q hb' hc' hg' hQ => ?_) fun ds c' hl hP hg' => ?_
  · simp
    refine random_em hc' hg' (by omega) (by decide) (by decide) fun s c2 s0 s1 g2 => ?_
    simp [dSub_int]
    exact hQ _ c2 ⟨_, rfl, by omega⟩ (g2.mono (by omega))
  · have e := cut_pl (cs := (cs.set k (some c1)).set k (some c')) hP (by omega)
    have e1 := e.choose_spec.1
    have e2 := h _ c' e.choose_spec.2 (hg'.mono (by omega))
    clear h hP
    simp at e1
    simp
    unfold Em
    rw [e1]
    simp at e2 ⊢
    rw [List.take_of_length_le (by simp)]
    exact e2
end My
namespace My
open PySem PySem.Spec PyProof.Rows L2 DL
/-! a double poly -/
theorem pls_of : ∀ {ds : List D}, (∀ d ∈ ds, ∃ l, d = iL l ∧ Pl l) → ∃ ps : List (List Int), ds = ps.map iL ∧ ∀ p ∈ ps, Pl p
  | [], _ => ⟨[], rfl, by simp⟩
  | d :: ds, h => by
    obtain ⟨c, rfl, hc⟩ := h d (List.mem_cons_self ..)
    obtain ⟨l, rfl, hl⟩ := pls_of fun x hx => h x (List.mem_cons_of_mem _ hx)
    exact ⟨c :: l, rfl, fun x hx => by
      rcases List.mem_cons.mp hx with rfl | hx
      · exact hc
      · exact hl x hx⟩
structure Dpl (ps : List (List Int)) : Prop where
  n : ps.length ≤ 3
  p : ∀ p ∈ ps, Pl p
  d : doubleB (dpD ps) = true
theorem Pl.poly {l : List Int} (h : Pl l) : polyB (iL l) = true := h.p
theorem Dpl.dp {ps : List (List Int)} (h : Dpl ps) : Dp ps := ⟨by have := h.n; omega, fun p hp => by
  have q := h.p p hp
  have := q.n
  exact ⟨by omega, fun c hc => Nat.lt_of_le_of_lt (q.c c hc) (by decide)⟩⟩
theorem dcut_em {ds : List D} {cs : Cs} {n0 : Nat} {g : Option Rv} {v2 : Option Rv} {Q : Out → Prop} (hd : ∀ d ∈ ds, ∃ l, d = iL l ∧ Pl l) (h : ∀ (r : Nat) v2, lastB emptyD (ds.take r) = true → Q (.nx [g, some (.dat (.list (ds.take r))), v2] cs)) :
    El (gNm 2) (sSet 1 (mIf (mTAnd (mTB (mB dNe (xVar 1) (xLst aNil))) (mTB (mB dEq (mB dIx (xVar 1) (mU dNeg (xC (.int 1)))) (xLst aNil)))) (mSl (xVar 1) oNone (oSome (mU dNeg (xC (.int 1))))) (xVar 1))) n0 (rngD 0 ds.length) [g, some (.dat (.list ds)), v2] cs Q := by
  refine el_inv (k := 0) (fun i ρ cs' => cs' = cs ∧ ∃ v2 found r, ρ = [g, some (.dat (.list found)), v2] ∧ r ≤ ds.length ∧ found = ds.take r ∧ (lastB emptyD found = true ∨ r ≤ ds.length - i)) ⟨rfl, v2, ds, ds.length, rfl, Nat.le_refl _, by rw [List.take_of_length_le (Nat.le_refl _)], .inr (by omega)⟩ ?_ ?_
  · rintro i d ρ cs' hd' ⟨rfl, v2, found, r, rfl, hr, hf, hz⟩
    rw [Nat.zero_add] at *
    have pl : PyData.plainAll found = true := by
      rw [hf]
      refine plain_all.mpr fun x hx => ?_
      obtain ⟨l, rfl, hp⟩ := hd x (List.mem_of_mem_take hx)
      exact poly_plain hp.p
    rcases cut_step (P := emptyD) (ds := ds) (i := i) hr hf hz with ⟨e, hz'⟩ | ⟨y, x, e, hx, q⟩
    · subst e
      simp [dNe_nil (l := []) rfl]
      exact ⟨_, _, ⟨rfl, rfl⟩, r, hr, by simpa using hf, .inl hz'⟩
    · obtain ⟨l, rfl, hp⟩ := hd x hx
      have px : PyData.plainAll (l.map .int) = true := poly_plain hp.p
      simp [dNe_nil pl, dNeg_int, dSl_m1]
      rw [e]
      unfold iL
      simp [app_ne, ix_last, dEq_nil px]
      rcases q with ⟨q1, q2⟩ | ⟨q1, r', h1, h2, h3⟩
      · unfold iL at q1 e
        rw [emptyD_list] at q1
        have c0 : ¬ l = [] := by simpa using q1
        simp [c0]
        rw [← e]
        exact ⟨_, _, ⟨rfl, rfl⟩, r, hr, hf, .inl q2⟩
      · unfold iL at q1
        rw [emptyD_list] at q1
        have c0 : l = [] := by simpa using q1
        simp [c0]
        exact ⟨_, _, ⟨rfl, rfl⟩, r', h1, h2, .inr h3⟩
  · rintro ρ cs' ⟨rfl, v2, found, r, rfl, hr, hf, hz⟩
    rw [rng_len, Nat.zero_add] at hz
    have hz' : lastB emptyD found = true := by
      rcases hz with q | q
      · exact q
      · have : r = 0 := by omega
        rw [hf, this]
        rfl
    rw [hf] at hz' ⊢
    exact h r v2 hz'
theorem dpoly_em {k : Nat} {b : Int} {cs : Cs} {c : List D} {Q : Rv → Cs → Prop} (hc : cs[k]? = some (some c)) (hg : Gs b c) (hb : b + 5000 ≤ 10 ^ 20) (h : ∀ (ps : List (List Int)) (c' : List D), Dpl ps → Gs (b + 5000) c' → Q (.dat (dpD ps)) (cs.set k (some c'))) : Em m__law_double_poly [.own k] cs Q := by
  unfold m__law_double_poly
  rw [em_fnM]
  unfold b__law_double_poly
  simp
  refine random_em hc hg (by omega) (by decide) (by decide) fun r c1 r0 r1 g1 => ?_
  simp [dAdd_int]
  refine ⟨by constructor <;> omega, ?_⟩
  refine draws (n := (1 + r).toNat) (w := 1000) (P := fun d => ∃ l, d = iL l ∧ Pl l) (get_set hc) g1 (by omega) (by omega) (fun x b' cs' c' Q hb' hc' hg' hQ => ?_) fun ds c' hl hP hg' => ?_
  · simp
    refine poly_em hc' hg' (by omega) (by decide) (by decide) fun l c2 hp g2 => ?_
    exact hQ _ c2 ⟨l, rfl, hp⟩ g2
  · simp [dLen]
    refine ⟨sm_of (by omega), ?_⟩
    refine dcut_em hP fun r' v2 hz => ?_
    obtain ⟨ps, eps, hps⟩ := pls_of (ds := ds.take r') fun d hd => hP d (List.mem_of_mem_take hd)
    rw [eps] at hz ⊢
    have hn : ps.length ≤ 3 := by
      have : (ds.take r').length = ps.length := by rw [eps, List.length_map]
      rw [List.length_take] at this
      omega
    simp
    rw [List.take_of_length_le (by simp)]
    refine h ps c' ⟨hn, hps, ?_⟩ (hg'.mono (by omega))
    unfold dpD
    rw [doubleB_list, hz, Bool.and_true]
    exact List.all_eq_true.mpr fun d hd => by
      obtain ⟨p, hp, rfl⟩ := List.mem_map.mp hd
      exact (hps p hp).p
/-! bases -/
def bases : List D := [.tuple [.int 1, .int 1], .tuple [.int 1, .int 1], .tuple [.int 2, .int 1], .tuple [.int (-1), .int 1], .tuple [.int 1, .int 2], .tuple [.int (-3), .int 2]]
theorem base_ok {d : D} (h : d ∈ bases) : ∃ p q, d = .tuple [.int p, .int q] ∧ Bs p q ∧ baseB d = true := by
  simp only [bases, List.mem_cons, List.not_mem_nil, or_false] at h
  rcases h with rfl | rfl | rfl | rfl | rfl | rfl <;> exact ⟨_, _, rfl, ⟨by decide, by decide, by decide, by decide⟩, by decide +kernel⟩
theorem base_em {k : Nat} {b : Int} {cs : Cs} {c : List D} {Q : Rv → Cs → Prop} (hc : cs[k]? = some (some c)) (hg : Gs b c) (hb : b + 5000 ≤ 10 ^ 20) (h : ∀ (p q : Int) (c' : List D), Bs p q → baseB (.tuple [.int p, .int q]) = true → Gs (b + 100) c' → Q (.dat (.tuple [.int p, .int q])) (cs.set k (some c'))) : Em m__law_base [.own k] cs Q := by
  unfold m__law_base
  rw [em_fnM]
  unfold b__law_base
  simp [le_size, dSub_int]
  refine pick_em hc hg (by omega) (by simp) (by simp) fun d c2 hd g2 => ?_
  obtain ⟨p, q, rfl, hs, hb⟩ := base_ok (show d ∈ bases from hd)
  simp
  rw [List.take_of_length_le (by simp)]
  exact h p q c2 hs hb g2
/-! factors -/
def wtF (f : Fc) : Nat := 6 * f.a.natAbs + 9 * f.b.natAbs + f.c.natAbs
def wtD : D → Nat
  | .tuple [_, .tuple [.int a, .int b, .int c], _] => 6 * a.natAbs + 9 * b.natAbs + c.natAbs
  | _ => 0
def wtL : List D → Nat
  | [] => 0
  | d :: ds => wtD d + wtL ds
theorem wtL_app : ∀ {xs ys : List D}, wtL (xs ++ ys) = wtL xs + wtL ys
  | [], ys => by show wtL ys = 0 + wtL ys; omega
  | x :: xs, ys => by
    show wtD x + wtL (xs ++ ys) = wtD x + wtL xs + wtL ys
    rw [wtL_app]
    omega
theorem wtL_perm {xs ys : List D} (h : xs.Perm ys) : wtL xs = wtL ys := by
  induction h with
  | nil => rfl
  | cons x _ ih => show wtD x + _ = wtD x + _; rw [ih]
  | swap x y l => show wtD y + (wtD x + wtL l) = wtD x + (wtD y + wtL l); omega
  | trans _ _ h1 h2 => rw [h1, h2]
theorem wtD_f (f : Fc) : wtD f.d = wtF f := rfl
structure Fo (f : Fc) : Prop where
  o : f.Ok
  q : f.q ≤ 4
def LF (ds : List D) : Prop := ∀ d ∈ ds, ∃ f : Fc, d = f.d ∧ Fo f
theorem lf_wt : ∀ {ds : List D}, LF ds → wtL ds ≤ 48 * ds.length
  | [], _ => Nat.zero_le _
  | d :: ds, h => by
    obtain ⟨f, rfl, ho⟩ := h d (List.mem_cons_self ..)
    have := lf_wt (ds := ds) fun x hx => h x (List.mem_cons_of_mem _ hx)
    have a := ho.o.a
    have b := ho.o.b
    have c := ho.o.c
    have e : wtD f.d = 6 * f.a.natAbs + 9 * f.b.natAbs + f.c.natAbs := rfl
    show wtD f.d + wtL ds ≤ 48 * (ds.length + 1)
    omega
theorem lf_of : ∀ {ds : List D}, LF ds → ∃ fs : List Fc, ds = fs.map Fc.d ∧ ∀ f ∈ fs, Fo f
  | [], _ => ⟨[], rfl, by simp⟩
  | d :: ds, h => by
    obtain ⟨c, rfl, hc⟩ := h d (List.mem_cons_self ..)
    obtain ⟨l, rfl, hl⟩ := lf_of (ds := ds) fun x hx => h x (List.mem_cons_of_mem _ hx)
    exact ⟨c :: l, rfl, fun x hx => by
      rcases List.mem_cons.mp hx with rfl | hx
      · exact hc
      · exact hl x hx⟩
theorem LF.app {xs ys : List D} (h : LF xs) (h' : LF ys) : LF (xs ++ ys) := fun d hd => (List.mem_append.mp hd).elim (h d) (h' d)
theorem LF.one {d : D} {f : Fc} (e : d = f.d) (h : Fo f) : LF [d] := fun x hx => by
  rw [List.mem_singleton.mp hx]
  exact ⟨f, e, h⟩
theorem Fc.Ok.fac {f : Fc} (h : f.Ok) : facB f.d = true := by
  have h1 := h.rs.rs
  have h2 : eB (.int f.e) = true := by
    unfold eB
    rcases h.e with z | z <;> rw [z] <;> rfl
  show (rsB (.tuple [.int f.p, .int f.q]) && lineB f.line && eB (.int f.e)) = true
  rw [h1, h2]
  rfl
theorem LF.fac {ds : List D} (h : LF ds) : ∀ d ∈ ds, facB d = true := fun d hd => by
  obtain ⟨f, rfl, ho⟩ := h d hd
  exact ho.o.fac
theorem LF.srt {ds : List D} (h : LF ds) : LF (srt ds) := fun d hd => h d (srt_mem.mp hd)
theorem rs11' : RS 1 1 := ⟨by decide, by decide, by decide, by decide +kernel⟩
theorem fc11 {a b c e : Int} (ha : a.natAbs ≤ 3) (hb : b.natAbs ≤ 3) (hc : c.natAbs ≤ 3) (he : e = 1 ∨ e = -1) : ∃ f : Fc, (.tuple [.tuple [.int 1, .int 1], .tuple [.int a, .int b, .int c], .int e] : D) = f.d ∧ Fo f := ⟨⟨1, 1, a, b, c, e⟩, rfl, ⟨⟨rs11', ha, hb, hc, he⟩, show (1 : Int) ≤ 4 by decide⟩⟩
theorem start_em {k : Nat} {b : Int} {cs : Cs} {c : List D} {Q : Rv → Cs → Prop} (hc : cs[k]? = some (some c)) (hg : Gs b c) (hb : b + 100 ≤ 10 ^ 20) (h : ∀ (p q : Int) (c' : List D), RS p q → q ≤ 4 → Gs (b + 100) c' → Q (.dat (.tuple [.int p, .int q])) (cs.set k (some c'))) : Em m__law_start [.own k] cs Q := by
  unfold m__law_start
  rw [em_fnM]
  unfold b__law_start
  simp [le_size]
  refine pick_em hc hg (by omega) (by simp) (by simp) fun d c2 hd g2 => ?_
  have hd' : ∃ p q : Int, d = .tuple [.int p, .int q] ∧ RS p q ∧ q ≤ 4 := by
    simp only [List.mem_cons, List.not_mem_nil, or_false] at hd
    rcases hd with rfl | rfl | rfl | rfl | rfl | rfl | rfl <;> exact ⟨_, _, rfl, ⟨by decide, by decide, by decide, by decide +kernel⟩, by decide⟩
  obtain ⟨p, q, rfl, hs, h4⟩ := hd'
  simp
  rw [List.take_of_length_le (by simp)]
  exact h p q c2 hs h4 g2
theorem fr_em {k : Nat} {b : Int} {cs : Cs} {c : List D} {Q : Rv → Cs → Prop} (hc : cs[k]? = some (some c)) (hg : Gs b c) (hb : b + 500 ≤ 10 ^ 20) (h : ∀ (f : Fc) (c' : List D), Fo f → Gs (b + 500) c' → Q (.dat f.d) (cs.set k (some c'))) : Em m__law_raw_factor [.own k, .dat (.int 1)] cs Q := by
  unfold m__law_raw_factor
  rw [em_fnM]
  unfold b__law_raw_factor
  simp
  refine random_em hc hg (by omega) (by decide) (by decide) fun r c1 r0 r1 g1 => ?_
  simp [dSub_int]
  refine random_em (get_set hc) g1 (by omega) (by decide) (by decide) fun s c2 s0 s1 g2 => ?_
  simp [dSub_int, dMul_int (cml (i := s - 3) (j := 1) 3 1 (by omega) (by decide))]
  refine random_em (get_set hc) g2 (by omega) (by decide) (by decide) fun t c3 t0 t1 g3 => ?_
  simp [dSub_int, le_size]
  refine start_em (get_set hc) g3 (by omega) fun p q c4 h1 h4 g4 => ?_
  simp [le_size, dSub_int]
  refine pick_em (get_set hc) g4 (by omega) (by simp) (by simp) fun x c5 hx g5 => ?_
  simp at hx
  have hx' : ∃ e : Int, x = .int e ∧ (e = 1 ∨ e = -1) := by
    rcases hx with rfl | rfl
    · exact ⟨_, rfl, .inl rfl⟩
    · exact ⟨_, rfl, .inr rfl⟩
  obtain ⟨e, rfl, he⟩ := hx'
  simp [le_size]
  rw [List.take_of_length_le (by simp)]
  exact h ⟨p, q, r - 3, s - 3, t - 3, e⟩ c5 ⟨⟨h1, by show (r - 3).natAbs ≤ 3; omega, by show (s - 3).natAbs ≤ 3; omega, by show (t - 3).natAbs ≤ 3; omega, he⟩, h4⟩ (g5.mono (by omega))
end My
namespace My
open PySem PySem.Spec PyProof.Rows L2 DL
theorem dMul_two {d : D} : dMul (.list [d]) (.int 2) = some (.fr [d, d]) := by
  show (if 0 ≤ (2 : Int) ∧ (2 : Int) < 2 ^ 31 ∧ [d].length * (2 : Int).toNat ≤ sizeLine then some (Rv.fr (List.replicate (2 : Int).toNat [d]).flatten) else none) = _
  rw [if_pos ⟨by decide, by decide, le_size (by show 1 * 2 ≤ _; decide)⟩]
  rfl
theorem sl_one {a b : D} : dSl (.list [a, b]) none (some 1) = some (.fr [a]) := rfl
theorem lf_cons {d : D} {ds : List D} (h1 : ∃ f : Fc, d = f.d ∧ Fo f) (h2 : LF ds) : LF (d :: ds) := fun x hx => by
  rcases List.mem_cons.mp hx with rfl | hx
  · exact h1
  · exact h2 x hx
theorem lf_nil : LF [] := fun x hx => nomatch hx
theorem rims_em {k : Nat} {b : Int} {cs : Cs} {c : List D} {Q : Rv → Cs → Prop} (hc : cs[k]? = some (some c)) (hg : Gs b c) (hb : b + 1000 ≤ 10 ^ 20) (h : ∀ (ds : List D) (c' : List D), LF ds → ds.length ≤ 6 → wtL ds ≤ 60 → Gs (b + 500) c' → Q (.dat (.list ds)) (cs.set k (some c'))) : Em m__law_rims [.own k] cs Q := by
  unfold m__law_rims
  rw [em_fnM]
  unfold b__law_rims
  simp [le_size, dSub_int]
  refine random_em hc hg (by omega) (by decide) (by decide) fun r c1 r0 r1 g1 => ?_
  simp [le_size, dSub_int]
  refine random_em (get_set hc) g1 (by omega) (by decide) (by decide) fun s c2 s0 s1 g2 => ?_
  simp [le_size, dAdd_list, dMul_two, sl_one]
  have a1 := fc11 (a := 0) (b := 1) (c := 0) (e := -1) (by decide) (by decide) (by decide) (.inr rfl)
  have a2 := fc11 (a := 1) (b := -1) (c := 0) (e := -1) (by decide) (by decide) (by decide) (.inr rfl)
  have a3 := fc11 (a := 0) (b := 1) (c := r - 1) (e := -1) (by decide) (by decide) (by omega) (.inr rfl)
  have a4 := fc11 (a := 1) (b := -2) (c := s) (e := -1) (by decide) (by decide) (by omega) (.inr rfl)
  have a5 := fc11 (a := 1) (b := 0) (c := 0) (e := 1) (by decide) (by decide) (by decide) (.inl rfl)
  refine pick_em (get_set hc) g2 (by omega) (by simp) (by simp) fun d c3 hd g3 => ?_
  have hd' : ∃ ds, d = .list ds ∧ LF ds ∧ ds.length ≤ 6 ∧ wtL ds ≤ 60 := by
    simp at hd
    rcases hd with rfl | rfl | rfl | rfl | rfl | rfl
    · exact ⟨_, rfl, lf_cons a1 (lf_cons a2 lf_nil), by simp, by simp [wtL, wtD]; try omega⟩
    · exact ⟨_, rfl, lf_cons a3 (lf_cons a4 lf_nil), by simp, by simp [wtL, wtD]; try omega⟩
    · exact ⟨_, rfl, lf_cons a1 (lf_cons a2 (lf_cons a5 lf_nil)), by simp, by simp [wtL, wtD]; try omega⟩
    · exact ⟨_, rfl, lf_cons a1 (lf_cons a2 (lf_cons a1 (lf_cons a2 (lf_cons a5 (lf_cons a5 lf_nil))))), by simp, by simp [wtL, wtD]; try omega⟩
    · exact ⟨_, rfl, lf_nil, by simp, by simp [wtL, wtD]; try omega⟩
    · exact ⟨_, rfl, lf_cons a3 lf_nil, by simp, by simp [wtL, wtD]; try omega⟩
  obtain ⟨ds, rfl, h1, h2, h3⟩ := hd'
  simp
  rw [List.take_of_length_le (by simp)]
  exact h ds c3 h1 h2 h3 (g3.mono (by omega))
theorem srt_facs {ds : List D} (h : LF ds) : facsB (.list (srt ds)) = true := by
  show ((srt ds).all facB && chn (srt ds)) = true
  rw [pair_chn (srt_pair ds), Bool.and_true]
  exact List.all_eq_true.mpr h.srt.fac
/-- a drawn double term -/
structure Drawn (fs : List Fc) (ps : List (List Int)) (p1 q1 p2 q2 : Int) : Prop where
  f : Fcs fs
  n : fs.length ≤ 8
  q : ∀ f ∈ fs, f.q ≤ 4
  w : wtL (fs.map Fc.d) ≤ 156
  s : facsB (dOf fs) = true
  d : Dpl ps
  b1 : Bs p1 q1
  b2 : Bs p2 q2
  c1 : baseB (.tuple [.int p1, .int q1]) = true
  c2 : baseB (.tuple [.int p2, .int q2]) = true
theorem raw_em {k : Nat} {b : Int} {cs : Cs} {c : List D} {Q : Rv → Cs → Prop} (hc : cs[k]? = some (some c)) (hg : Gs b c) (hb : b + 20000 ≤ 10 ^ 20) (h : ∀ (fs : List Fc) (ps : List (List Int)) (p1 q1 p2 q2 : Int) (c' : List D), Drawn fs ps p1 q1 p2 q2 → Gs (b + 10000) c' → Q (.dat (dbl fs ps p1 q1 p2 q2)) (cs.set k (some c'))) : Em m__law_raw_double [.own k] cs Q := by
  unfold m__law_raw_double
  rw [em_fnM]
  unfold b__law_raw_double
  simp
  refine rims_em hc hg (by omega) fun rs c1 hr1 hr2 hr3 g1 => ?_
  simp
  refine random_em (get_set hc) g1 (by omega) (by decide) (by decide) fun r c2 r0 r1 g2 => ?_
  simp
  refine ⟨by constructor <;> omega, ?_⟩
  refine draws (n := r.toNat) (w := 500) (P := fun d => ∃ f : Fc, d = f.d ∧ Fo f) (get_set hc) g2 (by omega) (by omega) (fun x b' cs' c' Q hb' hc' hg' hQ => ?_) fun ds c3 hl hP g3 => ?_
  · simp
    refine fr_em hc' hg' (by omega) fun f c2 hf g2 => ?_
    exact hQ _ c2 ⟨f, rfl, hf⟩ g2
  · have hlf : LF (rs ++ ds) := hr1.app hP
    obtain ⟨fs, efs, hfs⟩ := lf_of hlf.srt
    have hlen : fs.length ≤ 8 := by
      have : (srt (rs ++ ds)).length = fs.length := by rw [efs, List.length_map]
      rw [srt_len, List.length_append] at this
      omega
    have hw : wtL (fs.map Fc.d) ≤ 156 := by
      have := lf_wt hP
      rw [← efs, wtL_perm (show (srt (rs ++ ds)).Perm (rs ++ ds) from List.mergeSort_perm _ _), wtL_app]
      omega
    have hz : rs.length + ds.length ≤ sizeLine := le_size (by omega)
    have hsf := srt_facs hlf
    simp [dAdd_list, hz]
    refine dpoly_em (get_set hc) g3 (by omega) fun ps c4 hps g4 => ?_
    simp
    refine base_em (get_set hc) g4 (by omega) fun p1 q1 c5 hb1 hbb1 g5 => ?_
    simp
    refine base_em (get_set hc) g5 (by omega) fun p2 q2 c6 hb2 hbb2 g6 => ?_
    simp [dSorted_facs hlf.fac, le_size]
    rw [List.take_of_length_le (by simp)]
    have e : dOf fs = .list (srt (rs ++ ds)) := by unfold dOf; rw [efs]
    have := h fs ps p1 q1 p2 q2 c6 ⟨⟨by omega, fun f hf => (hfs f hf).o⟩, hlen, fun f hf => (hfs f hf).q, hw, by rw [e]; exact hsf, hps, hb1, hb2, hbb1, hbb2⟩ (g6.mono (by omega))
    unfold dbl at this
    rw [e] at this
    exact this
end My
namespace My
open PySem PySem.Spec PyProof.Rows L2 DL
/-! the values that are judged -/
structure Vb (v : D) : Prop where
  va : Val v
  t : ∀ a b c d e, v = .tuple [a, b, c, d, e] → cz b = true ∧ cz e = true ∧ pz 6 c = true ∧ pz 6 d = true
theorem Vb.ok {v : D} (h : Vb v) : ∀ a b c d e, v = .tuple [a, b, c, d, e] → DOk b e := fun a b c d e hv => by
  obtain ⟨h1, h2, h3, h4⟩ := h.t a b c d e hv
  have s := h.va.s
  subst hv
  simp only [sz_tuple, szs_cons, szs_nil] at s
  exact dok_of h1 h2 (by omega) (by omega)
theorem Vb.all {v : D} (h : Vb v) : ∀ a b c d e, v = .tuple [a, b, c, d, e] → DOk b e ∧ smF c ∧ smF d ∧ c.plain = true ∧ d.plain = true := fun a b c d e hv => by
  obtain ⟨h1, h2, h3, h4⟩ := h.t a b c d e hv
  exact ⟨h.ok a b c d e hv, smF_pz h3, smF_pz h4, pz_plain 6 c h3, pz_plain 6 d h4⟩
theorem cz_pz {n : Nat} {d : D} (h : pz n d = true) (hn : n ≤ 6 := by decide) : cz d = true := by
  unfold cz
  rw [pz_le h hn, Bool.or_true]
theorem cz_d0 : cz (.dict []) = true := rfl
theorem vb5 {a b c d e : D} (ha : cz a = true) (hb : cz b = true) (hc : pz 6 c = true) (hd : pz 6 d = true) (he : cz e = true) (hs : sz a + sz b + sz c + sz d + sz e ≤ 8000) : Vb (.tuple [a, b, c, d, e]) := by
  refine ⟨⟨?_, ?_⟩, fun a' b' c' d' e' hv => ?_⟩
  · show [a, b, c, d, e].all cz = true
    simp [ha, hb, cz_pz hc, cz_pz hd, he]
  · simp only [sz_tuple, szs_cons, szs_nil]
    omega
  · cases hv
    exact ⟨hb, he, hc, hd⟩
theorem vbl {ds : List D} (h : ∀ d ∈ ds, cz d = true) (hs : szs ds ≤ 8000) : Vb (.list ds) := ⟨⟨List.all_eq_true.mpr h, by rw [sz_list]; omega⟩, nofun⟩
theorem vbt {ds : List D} (h : ∀ d ∈ ds, cz d = true) (hs : szs ds ≤ 8000) (hl : ds.length ≠ 5) : Vb (.tuple ds) := ⟨⟨List.all_eq_true.mpr h, by rw [sz_tuple]; omega⟩, fun a b c d e hv => by
  cases hv
  exact absurd rfl hl⟩
theorem vb0 {d : D} (h : tl d = true) : Vb d := by
  have p := pz_leaf h 6
  have c := cz_pz p
  cases d with
  | list _ => cases h
  | tuple _ => cases h
  | dict _ => cases h
  | none => exact ⟨⟨c, by decide⟩, nofun⟩
  | bool _ => exact ⟨⟨c, by rw [sz_bool]; decide⟩, nofun⟩
  | int _ => exact ⟨⟨c, by rw [sz_int]; decide⟩, nofun⟩
  | str _ => exact ⟨⟨c, by rw [sz_str]; decide⟩, nofun⟩
theorem vbd0 : Vb (.dict []) := ⟨⟨rfl, by rw [sz_dict]; decide⟩, nofun⟩
theorem szs_perm {xs ys : List D} (h : xs.Perm ys) : szs xs = szs ys := by
  induction h with
  | nil => rfl
  | cons x _ ih => rw [szs_cons, szs_cons, ih]
  | swap x y l => simp only [szs_cons]; omega
  | trans _ _ h1 h2 => rw [h1, h2]
theorem szs_rev {xs : List D} : szs xs.reverse = szs xs := szs_perm (List.reverse_perm xs)
theorem szs_srt {xs : List D} : szs (srt xs) = szs xs := szs_perm (List.mergeSort_perm _ _)
theorem pz_i {i : Int} (h : i.natAbs ≤ 1000) (n : Nat) : pz n (.int i) = true := pz_leaf (d := .int i) (show decide (i.natAbs < 10 ^ 40) = true from decide_eq_true (Nat.lt_of_le_of_lt h (by decide))) n
theorem dMul_2 {ds : List D} (h : ds.length ≤ 100) : dMul (.list ds) (.int 2) = some (.fr (ds ++ ds)) := by
  show (if 0 ≤ (2 : Int) ∧ (2 : Int) < 2 ^ 31 ∧ ds.length * (2 : Int).toNat ≤ sizeLine then some (Rv.fr (List.replicate (2 : Int).toNat ds).flatten) else none) = _
  rw [if_pos ⟨by decide, by decide, le_size (by show ds.length * 2 ≤ _; omega)⟩]
  show some (Rv.fr (ds ++ (ds ++ []))) = _
  rw [List.append_nil]
theorem dAdd_tup {x y : List D} : dAdd (.tuple x) (.tuple y) = if x.length + y.length ≤ sizeLine then some (.dat (.tuple (x ++ y))) else none := rfl
theorem dSl5_4 {a b c d e : D} : dSl (.tuple [a, b, c, d, e]) none (some 4) = some (.dat (.tuple [a, b, c, d])) := rfl
theorem dSl5_1 {a b c d e : D} : dSl (.tuple [a, b, c, d, e]) (some 1) none = some (.dat (.tuple [b, c, d, e])) := rfl
theorem dSl3_2 {a b c : D} : dSl (.tuple [a, b, c]) none (some 2) = some (.dat (.tuple [a, b])) := rfl
theorem sz_dp {ps : List (List Int)} (h : Dpl ps) : pz 2 (dpD ps) = true ∧ szs (ps.map iL) ≤ 12 := by
  have one : ∀ p ∈ ps, pz 1 (iL p) = true ∧ sz (iL p) ≤ 4 := fun p hp => by
    have q := h.p p hp
    constructor
    · unfold iL
      rw [pz_list]
      refine List.all_eq_true.mpr fun d hd => ?_
      obtain ⟨c, hc, rfl⟩ := List.mem_map.mp hd
      exact pz_i (by have := q.c c hc; omega) 0
    · unfold iL
      rw [sz_list]
      have : ∀ l : List Int, szs (l.map .int) = l.length := fun l => by
        induction l with
        | nil => rw [List.map_nil, szs_nil]; rfl
        | cons c r ih => rw [List.map_cons, szs_cons, ih, sz_int, List.length_cons]; omega
      rw [this]
      have := q.n
      omega
  constructor
  · unfold dpD
    rw [pz_list]
    refine List.all_eq_true.mpr fun d hd => ?_
    obtain ⟨p, hp, rfl⟩ := List.mem_map.mp hd
    exact (one p hp).1
  · have : ∀ l : List (List Int), (∀ p ∈ l, sz (iL p) ≤ 4) → szs (l.map iL) ≤ 4 * l.length := fun l hl => by
      induction l with
      | nil => rw [List.map_nil, szs_nil]; omega
      | cons c r ih =>
        rw [List.map_cons, szs_cons, List.length_cons]
        have := hl c (List.mem_cons_self ..)
        have := ih fun p hp => hl p (List.mem_cons_of_mem _ hp)
        omega
    have := this ps fun p hp => (one p hp).2
    have := h.n
    omega
theorem sz_fd {f : Fc} : sz f.d = 9 := by
  unfold Fc.d Fc.line
  simp only [sz_tuple, szs_cons, szs_nil, sz_int]
theorem pz_fd {f : Fc} (h : f.Ok) : pz 2 f.d = true := by
  have h1 := h.rs.p0
  have h2 := h.rs.le
  have h3 := h.rs.sm
  have h4 := h.a
  have h5 := h.b
  have h6 := h.c
  have h7 := h.e
  unfold Fc.d Fc.line
  simp only [pz_tuple, List.all_cons, List.all_nil]
  rw [pz_i (i := f.p) (by omega), pz_i (i := f.q) (by omega), pz_i (i := f.a) (by omega), pz_i (i := f.b) (by omega), pz_i (i := f.c) (by omega), pz_i (i := f.e) (by omega)]
  rfl
theorem sz_fs {fs : List Fc} : szs (fs.map Fc.d) = 9 * fs.length := by
  induction fs with
  | nil => rw [List.map_nil, szs_nil]; rfl
  | cons f r ih => rw [List.map_cons, szs_cons, ih, sz_fd, List.length_cons]; omega
theorem bs_pz {p q : Int} (h : Bs p q) : pz 1 (.tuple [.int p, .int q]) = true := by
  have := h.bp
  have := h.bq
  simp only [pz_tuple, List.all_cons, List.all_nil]
  rw [pz_i (i := p) (by omega), pz_i (i := q) (by omega)]
  rfl
end My
namespace My
open PySem PySem.Spec PyProof.Rows L2 DL
/-- a part of small size -/
def Pt (d : D) : Prop := cz d = true ∧ sz d ≤ 400
theorem pt_leaf {d : D} (h : tl d = true) : Pt d := ⟨cz_pz (pz_leaf h 6), by
  cases d with
  | list _ => cases h
  | tuple _ => cases h
  | dict _ => cases h
  | none => decide
  | bool _ => rw [sz_bool]; decide
  | int _ => rw [sz_int]; decide
  | str _ => rw [sz_str]; decide⟩
theorem pt_d0 : Pt (.dict []) := ⟨rfl, by rw [sz_dict]; decide⟩
theorem pt_list {ds : List D} (h : ds.all (pz 4) = true) (hs : szs ds ≤ 390) : Pt (.list ds) := ⟨cz_pz (n := 5) (by rw [pz_list]; exact h), by rw [sz_list]; omega⟩
theorem pt_tup {ds : List D} (h : ds.all (pz 4) = true) (hs : szs ds ≤ 390) : Pt (.tuple ds) := ⟨cz_pz (n := 5) (by rw [pz_tuple]; exact h), by rw [sz_tuple]; omega⟩
theorem pt5 {a b c d e : D} (ha : Pt a) (hb : Pt b) (hc : pz 6 c = true) (sc : sz c ≤ 400) (hd : pz 6 d = true) (sd : sz d ≤ 400) (he : Pt e) : Vb (.tuple [a, b, c, d, e]) := vb5 ha.1 hb.1 hc hd he.1 (by
  have := ha.2
  have := hb.2
  have := he.2
  omega)
def oddB : List D := [.none, .int 1, .tuple [.int 0, .int 1], .tuple [.int 2, .int 4], .list [.int 1, .int 1], .tuple [.int 1, .int 0], .tuple [.bool true, .int 1], .tuple [.int (-5), .int 7]]
theorem oddB_ok : ∀ d ∈ oddB, pz 6 d = true ∧ sz d ≤ 400 := by
  intro d hd
  have z : oddB.all (pz 6) = true := by decide +kernel
  refine ⟨List.all_eq_true.mp z d hd, ?_⟩
  simp [oddB] at hd
  rcases hd with rfl | rfl | rfl | rfl | rfl | rfl | rfl | rfl <;> simp [sz_none, sz_int, sz_bool, sz_tuple, sz_list, szs_cons, szs_nil]
section
variable {P F : List D} {c d : D}
/-- the parts of a drawn double term -/
structure Par (P F : List D) (c d : D) : Prop where
  p : P.all (pz 3) = true
  sp : szs P ≤ 12
  f : F.all (pz 3) = true
  sf : szs F ≤ 90
  fac : ∀ x ∈ F, facB x = true
  lf : F.length ≤ 10
  lp : P.length ≤ 10
  pc : pz 1 c = true
  pd : pz 1 d = true
  sc : sz c ≤ 10
  sd : sz d ≤ 10
theorem all34 {ds : List D} (h : ds.all (pz 3) = true) : ds.all (pz 4) = true := List.all_eq_true.mpr fun x hx => pz_mono 3 x (List.all_eq_true.mp h x hx)
def oddP (P : List D) : List D := [.none, .list [], .list [.list []], .list [.list [.int 0]], .list (P ++ [.list []]), .tuple P, .list [.int 1], .list [.list [.int 1, .int 0]], .list [.list [.none]], .list [.list [.bool true]], .list (P ++ [.list [.int 1]]), .dict []]
def oddF (F : List D) : List D := [.none, .list [], .tuple [], .tuple F, .list F.reverse, .list (F ++ [.none]), .list (.none :: F), .dict [], .list [.list []], .list (srt (F ++ F))]
theorem oddP_ok (h : Par P F c d) : ∀ x ∈ oddP P, Pt x := by
  intro x hx
  have hp := all34 h.p
  have sp := h.sp
  simp only [oddP, List.mem_cons, List.not_mem_nil, or_false] at hx
  rcases hx with rfl | rfl | rfl | rfl | rfl | rfl | rfl | rfl | rfl | rfl | rfl | rfl
  · exact pt_leaf rfl
  · exact pt_list rfl (by rw [szs_nil]; decide)
  · exact pt_list (by decide +kernel) (by simp only [sz_list, szs_cons, szs_nil]; decide)
  · exact pt_list (by decide +kernel) (by simp only [sz_list, szs_cons, szs_nil, sz_int]; decide)
  · exact pt_list (by rw [List.all_append, hp]; decide +kernel) (by rw [szs_app]; simp only [sz_list, szs_cons, szs_nil]; omega)
  · exact pt_tup hp (by omega)
  · exact pt_list (by decide +kernel) (by simp only [sz_list, szs_cons, szs_nil, sz_int]; decide)
  · exact pt_list (by decide +kernel) (by simp only [sz_list, szs_cons, szs_nil, sz_int]; decide)
  · exact pt_list (by decide +kernel) (by simp only [sz_list, szs_cons, szs_nil, sz_none]; decide)
  · exact pt_list (by decide +kernel) (by simp only [sz_list, szs_cons, szs_nil, sz_bool]; decide)
  · exact pt_list (by rw [List.all_append, hp]; decide +kernel) (by rw [szs_app]; simp only [sz_list, szs_cons, szs_nil, sz_int]; omega)
  · exact pt_d0
theorem all_srt {ds : List D} {p : D → Bool} (h : ds.all p = true) : (srt ds).all p = true := List.all_eq_true.mpr fun x hx => List.all_eq_true.mp h x (srt_mem.mp hx)
theorem oddF_ok (h : Par P F c d) : ∀ x ∈ oddF F, Pt x := by
  intro x hx
  have hf := all34 h.f
  have sf := h.sf
  simp only [oddF, List.mem_cons, List.not_mem_nil, or_false] at hx
  rcases hx with rfl | rfl | rfl | rfl | rfl | rfl | rfl | rfl | rfl | rfl
  · exact pt_leaf rfl
  · exact pt_list rfl (by rw [szs_nil]; decide)
  · exact pt_tup rfl (by rw [szs_nil]; decide)
  · exact pt_tup hf (by omega)
  · exact pt_list (by rw [List.all_reverse]; exact hf) (by rw [szs_rev]; omega)
  · exact pt_list (by rw [List.all_append, hf]; decide +kernel) (by rw [szs_app]; simp only [szs_cons, szs_nil, sz_none]; omega)
  · exact pt_list (by rw [List.all_cons, hf]; decide +kernel) (by rw [szs_cons, sz_none]; omega)
  · exact pt_d0
  · exact pt_list (by decide +kernel) (by simp only [sz_list, szs_cons, szs_nil]; decide)
  · exact pt_list (all_srt (by rw [List.all_append, hf]; rfl)) (by rw [szs_srt, szs_app]; omega)
def W : D := .str "double"
def odd0 (P F : List D) (c d : D) : List D := [.tuple [W, .list P, c, d, .list F], .list [W, .list P, c, d, .list F], .tuple [W, .list P, c, d], .tuple [W, .list P, c, d, .list F, .int 0], .tuple [.str "term", .list P, c, d, .list F], .tuple [.list [W], .list P, c, d, .list F], .none, .tuple [], .str "double", .int 7, .dict [], .tuple [.str "term", .list [.int 1], .tuple [.int 1, .int 1], .list []]]
theorem odd0_ok (h : Par P F c d) : ∀ x ∈ odd0 P F c d, Vb x := by
  intro x hx
  have hf := pt_list (all34 h.f) (by have := h.sf; omega)
  have hp := pt_list (all34 h.p) (by have := h.sp; omega)
  have w : Pt W := pt_leaf (by decide +kernel)
  have w' : Pt (.str "term") := pt_leaf (by decide +kernel)
  have w2 : Pt (.list [W]) := pt_list (by decide +kernel) (by rw [szs_cons, szs_nil, W, sz_str]; decide)
  have c6 := pz_le h.pc (m := 6) (by decide)
  have d6 := pz_le h.pd (m := 6) (by decide)
  have sc := h.sc
  have sd := h.sd
  have cc := cz_pz h.pc
  have cd := cz_pz h.pd
  have s1 := hf.2
  have s2 := hp.2
  have s3 := w.2
  have z1 := hf.1
  have z2 := hp.1
  have z3 := w.1
  have z4 : Pt (.list [.int 1]) := pt_list (by decide +kernel) (by rw [szs_cons, szs_nil, sz_int]; decide)
  have z5 : Pt (.tuple [.int 1, .int 1]) := pt_tup (by decide +kernel) (by rw [szs_cons, szs_cons, szs_nil, sz_int]; decide)
  have z6 : Pt (.list []) := pt_list rfl (by rw [szs_nil]; decide)
  simp only [odd0, List.mem_cons, List.not_mem_nil, or_false] at hx
  rcases hx with rfl | rfl | rfl | rfl | rfl | rfl | rfl | rfl | rfl | rfl | rfl | rfl
  · exact pt5 w hp c6 (by omega) d6 (by omega) hf
  · exact vbl (by simp [z1, z2, z3, cc, cd]) (by simp only [szs_cons, szs_nil]; omega)
  · exact vbt (by simp [z2, z3, cc, cd]) (by simp only [szs_cons, szs_nil]; omega) (by simp)
  · exact vbt (by simp [z1, z2, z3, cc, cd]; decide +kernel) (by simp only [szs_cons, szs_nil, sz_int]; omega) (by simp)
  · exact pt5 w' hp c6 (by omega) d6 (by omega) hf
  · exact pt5 w2 hp c6 (by omega) d6 (by omega) hf
  · exact vb0 rfl
  · exact vbt (by simp) (by rw [szs_nil]; decide) (by simp)
  · exact vb0 (by decide +kernel)
  · exact vb0 (by decide +kernel)
  · exact vbd0
  · exact vbt (by simp [w'.1, z4.1, z5.1, z6.1]) (by
      have := w'.2
      have := z4.2
      have := z5.2
      have := z6.2
      simp only [szs_cons, szs_nil]; omega) (by simp)
end
end My
namespace My
open PySem PySem.Spec PyProof.Rows L2 DL
theorem pk0 {r : Rv} : pick [0] [r] = [r] := rfl
theorem pk2 {a b : Rv} : pick [1, 0] [a, b] = [b, a] := rfl
theorem rg_bb {b : Bool} : rG (.list [.bool b, .bool b]) = true := by cases b <;> decide +kernel
theorem ix2l0 {a b : D} : dIx (.list [a, b]) (.int 0) = some (.dat a) := rfl
theorem ix2l1 {a b : D} : dIx (.list [a, b]) (.int 1) = some (.dat b) := rfl
theorem ix1l0 {a : D} : dIx (.list [a]) (.int 0) = some (.dat a) := rfl
section
variable {v a x : D} {cs : Cs}
theorem lk_b : List.lookup ("bounds_of" : Str) [(("bounds_of" : Str), m_bounds_of)] = some m_bounds_of := by rfl
theorem lk_s : List.lookup ("is_sound" : Str) [(("is_sound" : Str), m_is_sound), ("is_bounded", m_is_bounded)] = some m_is_sound := by rfl
theorem lk_d : List.lookup ("is_bounded" : Str) [(("is_sound" : Str), m_is_sound), ("is_bounded", m_is_bounded)] = some m_is_bounded := by rfl
theorem caught2S (hr : rG x = true) (e : ∀ cs, m_bounds_of [.dat v, .dat a] cs = some (.ex "InvalidSum" x cs)) : m__law_caught [.dat (fnD "bounds_of"), .dat (.list [v, a])] cs = some (.fr [.bool true, .bool false, .str x.shown], cs) := by
  refine em_eq ?_
  unfold m__law_caught
  rw [em_fnM]
  unfold b__law_caught
  simp [dLen, dGt_int, lk_b, ix2l0, ix2l1]
  refine emx_of (e _) ?_
  simp [subS1, subS2, subS3, repr_okG hr]
  exact le_size (by decide)
theorem caught2N (hr : rG x = true) (e : ∀ cs, m_bounds_of [.dat v, .dat a] cs = some (.ex "InvalidNumber" x cs)) : m__law_caught [.dat (fnD "bounds_of"), .dat (.list [v, a])] cs = some (.fr [.bool false, .bool true, .str x.shown], cs) := by
  refine em_eq ?_
  unfold m__law_caught
  rw [em_fnM]
  unfold b__law_caught
  simp [dLen, dGt_int, lk_b, ix2l0, ix2l1]
  refine emx_of (e _) ?_
  simp [subN1, subN2, subN3, repr_okG hr]
  exact le_size (by decide)
theorem caught1s (hr : rG v = true) (e : ∀ cs, m_is_sound [.dat v] cs = some (.ex "InvalidSum" v cs)) : m__law_caught [.dat (fnD "is_sound"), .dat (.list [v])] cs = some (.fr [.bool true, .bool false, .str v.shown], cs) := by
  refine em_eq ?_
  unfold m__law_caught
  rw [em_fnM]
  unfold b__law_caught
  simp [dLen, dGt_int, lk_s, ix1l0]
  refine emx_of (e _) ?_
  simp [subS1, subS2, subS3, repr_okG hr]
  exact le_size (by decide)
theorem caught1b (hr : rG v = true) (e : ∀ cs, m_is_bounded [.dat v] cs = some (.ex "InvalidSum" v cs)) : m__law_caught [.dat (fnD "is_bounded"), .dat (.list [v])] cs = some (.fr [.bool true, .bool false, .str v.shown], cs) := by
  refine em_eq ?_
  unfold m__law_caught
  rw [em_fnM]
  unfold b__law_caught
  simp [dLen, dGt_int, lk_d, ix1l0]
  refine emx_of (e _) ?_
  simp [subS1, subS2, subS3, repr_okG hr]
  exact le_size (by decide)
/-! the doors -/
theorem bo_bad (h : ∀ a b c d e, v = .tuple [a, b, c, d, e] → DOk b e) (hf : formB v = false) : m_bounds_of [.dat v, .dat a] cs = some (.ex "InvalidSum" v cs) := by
  refine emx_eq ?_
  unfold m_bounds_of
  rw [emx_fnX]
  unfold b_bounds_of
  simp
  refine emx_of (cdt_bad h hf) ?_
  simp
theorem so_bad (h : ∀ a b c d e, v = .tuple [a, b, c, d, e] → DOk b e) (hf : formB v = false) : m_is_sound [.dat v] cs = some (.ex "InvalidSum" v cs) := by
  refine emx_eq ?_
  unfold m_is_sound
  rw [emx_fnX]
  unfold b_is_sound
  simp
  refine emx_of (cdt_bad h hf) ?_
  simp
theorem bd_bad (h : ∀ a b c d e, v = .tuple [a, b, c, d, e] → DOk b e) (hf : formB v = false) : m_is_bounded [.dat v] cs = some (.ex "InvalidSum" v cs) := by
  refine emx_eq ?_
  unfold m_is_bounded
  rw [emx_fnX]
  unfold b_is_bounded
  simp
  refine emx_of (cdt_bad h hf) ?_
  simp
end
section
variable {fs : List Fc} {a b c d : D} {cs : Cs}
def T5 (a b c d : D) (fs : List Fc) : D := .tuple [a, b, c, d, dOf fs]
theorem so_gen {z : Bool} (h : ∀ b' e, T5 a b c d fs = .tuple [a, b', c, d, e] → DOk b' e) (hf : formB (T5 a b c d fs) = true) (e : ∀ cs, m_is_sound_everywhere [.dat (dOf fs)] cs = some (.dat (.bool z), cs)) : m_is_sound [.dat (T5 a b c d fs)] cs = some (.ok (.dat (.bool z)) cs) := by
  refine emx_eq ?_
  unfold m_is_sound
  rw [emx_fnX]
  unfold b_is_sound
  simp
  refine emx_of (cdt_ok (fun a' b' c' d' e' hv => by cases hv; exact h _ _ rfl) hf) ?_
  have e4 : dIx (T5 a b c d fs) (.int 4) = some (.dat (dOf fs)) := rfl
  simp [e4]
  refine em_of (e _) ?_
  simp
theorem bd_ok (h : ∀ b' e, T5 a b c d fs = .tuple [a, b', c, d, e] → DOk b' e) (hf : formB (T5 a b c d fs) = true) (hs : Fcs fs) : m_is_bounded [.dat (T5 a b c d fs)] cs = some (.ok (.dat (.bool (bndB (lnE fs (-1))))) cs) := by
  refine emx_eq ?_
  unfold m_is_bounded
  rw [emx_fnX]
  unfold b_is_bounded
  simp
  refine emx_of (cdt_ok (fun a' b' c' d' e' hv => by cases hv; exact h _ _ rfl) hf) ?_
  simp
  refine em_of (bounded_eq hs) ?_
  simp
theorem bo_unb {x : D} (h : ∀ b' e, T5 a b c d fs = .tuple [a, b', c, d, e] → DOk b' e) (hf : formB (T5 a b c d fs) = true) (hs : Fcs fs) (hb : bndB (lnE fs (-1)) = false) : m_bounds_of [.dat (T5 a b c d fs), .dat x] cs = some (.ex "InvalidSum" (T5 a b c d fs) cs) := by
  refine emx_eq ?_
  unfold m_bounds_of
  rw [emx_fnX]
  unfold b_bounds_of
  simp
  refine emx_of (cdt_ok (fun a' b' c' d' e' hv => by cases hv; exact h _ _ rfl) hf) ?_
  simp
  refine em_of (bounded_eq hs) ?_
  simp [hb]
theorem bo_n {x : D} (h : ∀ b' e, T5 a b c d fs = .tuple [a, b', c, d, e] → DOk b' e) (hf : formB (T5 a b c d fs) = true) (hs : Fcs fs) (hb : bndB (lnE fs (-1)) = true) (hx : countB x = false) : m_bounds_of [.dat (T5 a b c d fs), .dat x] cs = some (.ex "InvalidNumber" x cs) := by
  refine emx_eq ?_
  unfold m_bounds_of
  rw [emx_fnX]
  unfold b_bounds_of
  simp
  refine emx_of (cdt_ok (fun a' b' c' d' e' hv => by cases hv; exact h _ _ rfl) hf) ?_
  simp
  refine em_of (bounded_eq hs) ?_
  simp [hb]
  refine emx_of (cn_bad hx) ?_
  simp
theorem bo_ok {n : Int} (h : ∀ b' e, T5 a b c d fs = .tuple [a, b', c, d, e] → DOk b' e) (hf : formB (T5 a b c d fs) = true) (hs : Fcs fs) (hb : bndB (lnE fs (-1)) = true) (hn : 0 ≤ n) (hn2 : n.natAbs ≤ 1000) : m_bounds_of [.dat (T5 a b c d fs), .dat (.int n)] cs = some (.ok (.dat (bdD (lnE fs (-1)) n)) cs) := by
  refine emx_eq ?_
  unfold m_bounds_of
  rw [emx_fnX]
  unfold b_bounds_of
  simp
  refine emx_of (cdt_ok (fun a' b' c' d' e' hv => by cases hv; exact h _ _ rfl) hf) ?_
  simp
  refine em_of (bounded_eq hs) ?_
  simp [hb]
  refine emx_of (count_eq hn) ?_
  simp
  refine em_of (spank_eq hs hb hn2) ?_
  simp
end
section
variable {fs : List Fc} {ps : List (List Int)} {p1 q1 p2 q2 n k : Int}
theorem bs_sz {p q : Int} : sz (.tuple [.int p, .int q]) ≤ 10 := by simp only [sz_tuple, szs_cons, szs_nil, sz_int]; decide
theorem Drawn.par (h : Drawn fs ps p1 q1 p2 q2) : Par (ps.map iL) (fs.map Fc.d) (.tuple [.int p1, .int q1]) (.tuple [.int p2, .int q2]) where
  p := by
    have := pz_mono 2 _ (sz_dp h.d).1
    unfold dpD at this
    rw [pz_list] at this
    exact List.all_eq_true.mpr fun x hx => pz_mono 2 x (List.all_eq_true.mp this x hx)
  sp := (sz_dp h.d).2
  f := List.all_eq_true.mpr fun x hx => by
    obtain ⟨f, hf, rfl⟩ := List.mem_map.mp hx
    exact pz_mono 2 _ (pz_fd (h.f.2 f hf))
  sf := by rw [sz_fs]; have := h.n; omega
  fac := fun x hx => by
    obtain ⟨f, hf, rfl⟩ := List.mem_map.mp hx
    exact (h.f.2 f hf).fac
  lf := by rw [List.length_map]; have := h.n; omega
  lp := by rw [List.length_map]; have := h.d.n; omega
  pc := bs_pz h.b1
  pd := bs_pz h.b2
  sc := bs_sz
  sd := bs_sz
theorem Drawn.vb (h : Drawn fs ps p1 q1 p2 q2) : Vb (dbl fs ps p1 q1 p2 q2) := odd0_ok h.par _ (List.mem_cons_self ..)
theorem Drawn.form (h : Drawn fs ps p1 q1 p2 q2) : formB (dbl fs ps p1 q1 p2 q2) = true := by
  show ((("double" : Str) == ("double" : Str)) && (doubleB (dpD ps) && facsB (dOf fs) && (baseB _ && baseB _))) = true
  rw [h.d.d, h.s, h.c1, h.c2]
  rfl
theorem sumM_wt : ∀ {fs : List Fc}, k.natAbs ≤ 39 → 3 * sumM 12 k fs ≤ 13 * wtL (fs.map Fc.d)
  | [], _ => Nat.zero_le _
  | f :: r, hk => by
    have ih := sumM_wt (fs := r) hk
    have e : wtL ((f :: r).map Fc.d) = 6 * f.a.natAbs + 9 * f.b.natAbs + f.c.natAbs + wtL (r.map Fc.d) := rfl
    have h1 := mul_nat (a := f.b) (b := k) (Nat.le_refl _) hk
    have e2 : sumM 12 k (f :: r) = (f.m 12 k).natAbs + sumM 12 k r := rfl
    have e3 : (f.m 12 k).natAbs ≤ 12 * f.a.natAbs + f.b.natAbs * 39 + f.c.natAbs := by
      unfold Fc.m
      generalize f.b * k = y at h1
      omega
    omega
theorem Drawn.ev2 (h : Drawn fs ps p1 q1 p2 q2) (hk : k.natAbs ≤ 39) : Ev2 fs ps p1 q1 p2 q2 12 k where
  x := ⟨h.f, fun f hf => by
    have ho := h.f.2 f hf
    have h1 := mul_nat ho.b hk
    have h2 := ho.a
    have h3 := ho.c
    unfold Fc.m
    generalize f.b * k = y at h1
    omega, h.q, by decide, by omega⟩
  d := h.d.dp
  b1 := h.b1
  b2 := h.b2
  w := by
    have := sumM_wt (fs := fs) hk
    have := h.w
    omega
def ne01 (d : D) : Prop := ∃ b, dNe d (.tuple [.int 0, .int 1]) = some (db b)
theorem ne01_none : ne01 .none := ⟨true, by
  unfold dNe
  rw [if_pos ⟨rfl, rfl, by show min 0 1 ≤ 100; decide⟩]
  rfl⟩
theorem ne01_tup {a b : Int} : ne01 (.tuple [.int a, .int b]) := by
  unfold ne01 dNe
  rw [if_pos ⟨rfl, rfl, by show min 1 1 ≤ 100; decide⟩]
  exact ⟨_, rfl⟩
theorem Drawn.at12 (h : Drawn fs ps p1 q1 p2 q2) (hb : bndB (lnE fs (-1)) = true) (hk : k.natAbs ≤ 1000) (cs : Cs) : ∃ d, m_double_value [.dat (dbl fs ps p1 q1 p2 q2), .dat (.int 12), .dat (.int k)] cs = some (.dat d, cs) ∧ ne01 d := by
  rcases far_cut h.f hb (k := k) with z | z
  · exact ⟨_, dval_cut h.f h.vb.ok h.form (by decide) (by decide) hk z, ne01_tup⟩
  · obtain ⟨d, e, hd⟩ := dval_far (cs := cs) (h.ev2 z) h.vb.ok h.form (by decide)
    refine ⟨d, e, ?_⟩
    rcases hd with rfl | ⟨a, b, rfl⟩
    · exact ne01_none
    · exact ne01_tup
end
end My
namespace My
open PySem PySem.Spec PyProof.Rows L2 DL
theorem ne3 {a b : Bool} {x : Str} : dNe (.list [.bool a, .bool b, .str x]) (.list [.bool a, .bool b, .str x]) = some (db false) := dNe_refl rfl (by show 1 ≤ 100; decide)
theorem eq3 {a b : Bool} {x : Str} : dEq (.list [.bool a, .bool b, .str x]) (.list [.bool a, .bool b, .str x]) = some (db true) := dEq_refl rfl (by show 1 ≤ 100; decide)
theorem ne2b {a b : Bool} : dNe (.list [.bool a, .bool b]) (.list [.bool true, .bool true]) = some (db (!(a && b))) := by
  unfold dNe
  rw [if_pos ⟨rfl, rfl, by show min 1 1 ≤ 100; decide⟩]
  cases a <;> cases b <;> rfl
theorem eq2b {a b : Bool} : dEq (.list [.bool a, .bool b]) (.list [.bool true, .bool true]) = some (db (a && b)) := by
  unfold dEq
  rw [if_pos ⟨rfl, rfl, by show min 1 1 ≤ 100; decide⟩]
  cases a <;> cases b <;> rfl
theorem filt_ne {L : List Ln} {P : Ln → Bool} : dNe (.list ((L.map Ln.d).filter fun d => P (dLn d))) (.list []) = some (db (L.any P)) := by
  have pl : PyData.plainAll ((L.map Ln.d).filter fun d => P (dLn d)) = true := plain_all.mpr fun d hd => by
    obtain ⟨l, _, rfl⟩ := List.mem_map.mp (List.mem_filter.mp hd).1
    rfl
  rw [dNe_nil pl]
  congr 2
  rw [Bool.eq_iff_iff]
  simp only [Bool.not_eq_true', List.any_eq_true]
  congr 2
  rw [Bool.eq_iff_iff]
  simp
  rfl
theorem bd_rg {fs : List Fc} {n : Int} (h : Fcs fs) (hb : bndB (lnE fs (-1)) = true) (hn : n.natAbs ≤ 300) : rG (.list [bdD (lnE fs (-1)) n, bdD (lnE fs (-1)) n]) = true := by
  rcases bd_cases h hb hn with ⟨a, b, _, _, e, _⟩ | ⟨a, b, _, _, e, _, _, h1, h2⟩
  · rw [e]
    decide +kernel
  · rw [e]
    have p1 : pz 2 (.tuple [.int a, .int b]) = true := by
      simp only [pz_tuple, List.all_cons, List.all_nil]
      rw [pz_i (by omega), pz_i (by omega)]
      rfl
    have c := cz_pz p1
    exact Val.rg ⟨by show [_, _].all cz = true; simp only [List.all_cons, List.all_nil, c]; rfl, by simp only [sz_list, sz_tuple, szs_cons, szs_nil, sz_int]; decide⟩
end My
namespace My
open PySem PySem.Spec PyProof.Rows L2 DL
def bads : List D := [.none, .bool true, .int (-1), .str "1", .list [.int 1], .tuple [.int 1], .dict []]
theorem bads_ok : bads.all (fun d => rG d && !countB d) = true := by decide +kernel
theorem bads_is {d : D} (h : d ∈ bads) : rG d = true ∧ countB d = false := by
  have := List.all_eq_true.mp bads_ok d h
  simpa using this
theorem right_em {k : Nat} {b : Int} {cs : Cs} {c0 : List D} {Q : Rv → Cs → Prop} (hc : cs[k]? = some (some c0)) (hg : Gs b c0) (hb : b + 40000 ≤ 10 ^ 20) (h : ∀ c' : List D, Gs (b + 40000) c' → Q (db true) (cs.set k (some c'))) : Em m__law_right [.own k] cs Q := by
  have s1 : 1 ≤ sizeLine := le_size (by decide)
  have s2 : 2 ≤ sizeLine := le_size (by decide)
  have s3 : 3 ≤ sizeLine := le_size (by decide)
  have s6 : 6 ≤ sizeLine := le_size (by decide)
  have s7 : 7 ≤ sizeLine := le_size (by decide)
  unfold m__law_right
  rw [em_fnM]
  unfold b__law_right
  simp
  refine raw_em hc hg (by omega) fun fs ps p1 q1 p2 q2 c1 hd g1 => ?_
  have ok0 := hd.vb.va.rg
  have vok := hd.vb.ok
  have fok := hd.form
  have e4 : dIx (dbl fs ps p1 q1 p2 q2) (.int 4) = some (.dat (dOf fs)) := rfl
  have sok : ∀ cs, m_is_sound [.dat (dbl fs ps p1 q1 p2 q2)] cs = some (.ok (.dat (.bool (soundL fs))) cs) := fun cs => so_gen (fun b' e hv => vok _ _ _ _ _ hv) fok fun cs => sound_eq hd.f
  have bok : ∀ cs, m_is_bounded [.dat (dbl fs ps p1 q1 p2 q2)] cs = some (.ok (.dat (.bool (bndB (lnE fs (-1))))) cs) := fun cs => bd_ok (fun b' e hv => vok _ _ _ _ _ hv) fok hd.f
  have unb : ∀ x : D, bndB (lnE fs (-1)) = false → ∀ cs, m_bounds_of [.dat (dbl fs ps p1 q1 p2 q2), .dat x] cs = some (.ex "InvalidSum" (dbl fs ps p1 q1 p2 q2) cs) := fun x hb cs => bo_unb (fun b' e hv => vok _ _ _ _ _ hv) fok hd.f hb
  have bon : ∀ x : D, bndB (lnE fs (-1)) = true → countB x = false → ∀ cs, m_bounds_of [.dat (dbl fs ps p1 q1 p2 q2), .dat x] cs = some (.ex "InvalidNumber" x cs) := fun x hb hx cs => bo_n (fun b' e hv => vok _ _ _ _ _ hv) fok hd.f hb hx
  have boo : ∀ n : Int, bndB (lnE fs (-1)) = true → 0 ≤ n → n.natAbs ≤ 1000 → ∀ cs, m_bounds_of [.dat (dbl fs ps p1 q1 p2 q2), .dat (.int n)] cs = some (.ok (.dat (bdD (lnE fs (-1)) n)) cs) := fun n hb h1 h2 cs => bo_ok (fun b' e hv => vok _ _ _ _ _ hv) fok hd.f hb h1 h2
  have cutv : ∀ n k : Int, 0 ≤ n → n.natAbs ≤ 1000 → k.natAbs ≤ 1000 → cutB fs n k = true → ∀ cs, m_double_value [.dat (dbl fs ps p1 q1 p2 q2), .dat (.int n), .dat (.int k)] cs = some (.dat (.tuple [.int 0, .int 1]), cs) := fun n k h0 h1 h2 hc cs => dval_cut hd.f vok fok h0 h1 h2 hc
  simp [repr_okG ok0, e4, dSub_int]
  refine em_of (lwl_eq hd.f) ?_
  rw [← lnE_d]
  simp [e4]
  refine em_of (sdouble_eq hd.f) ?_
  simp
  refine em_of (okM_of (sok _)) ?_
  simp [pk0]
  refine em_of (okM_of (sok _)) ?_
  simp [repr_okG rg_bb, dNe_str, s2]
  have hl := lnE_len (E := -1) hd.f
  have zz : ([] : List D).length + ((lnE fs (-1)).map Ln.d).length ≤ sizeLine := le_size (by simp; omega)
  refine ec_pure (fun d => decide (0 < (dLn d).b)) id (fun x hx cs' => ?_) zz ?_
  · obtain ⟨l, hl, rfl⟩ := List.mem_map.mp hx
    unfold Ln.d
    simp [wipeR, dIx3_1, dGt_int]
    rfl
  · rw [List.nil_append, List.map_id, filt_ne (P := fun l => decide (0 < l.b))]
    simp
    refine ec_pure (fun d => decide ((dLn d).b < 0)) id (fun x hx cs' => ?_) zz ?_
    · obtain ⟨l, hl, rfl⟩ := List.mem_map.mp hx
      unfold Ln.d
      simp [wipeR, dIx3_1, dLt_int]
      rfl
    · rw [List.nil_append, List.map_id, filt_ne (P := fun l => decide (l.b < 0))]
      have eb : bndB (lnE fs (-1)) = ((lnE fs (-1)).any (fun l => decide (0 < l.b)) && (lnE fs (-1)).any fun l => decide (l.b < 0)) := rfl
      generalize (lnE fs (-1)).any (fun l => decide (0 < l.b)) = p at *
      generalize (lnE fs (-1)).any (fun l => decide (l.b < 0)) = q at *
      simp [s2]
      refine em_of (okM_of (bok _)) ?_
      simp [pk0]
      refine em_of (okM_of (bok _)) ?_
      have d2 : ∀ z : Bool, dMul (.list [.bool z]) (.int 2) = some (.fr [.bool z, .bool z]) := fun z => dMul_2 (by simp)
      rw [eb]
      simp [repr_okG rg_bb, dNe_str, s1, s2, eq2b, ne2b, d2]
      rcases Bool.eq_false_or_eq_true (p && q) with hpq | hpq
      · -- bounded
        have hbd : bndB (lnE fs (-1)) = true := by rw [eb, hpq]
        have hp : p = true ∧ q = true := by simpa using hpq
        obtain ⟨rfl, rfl⟩ := hp
        simp
        refine random_em (get_set hc) g1 (by omega) (by decide) (by decide) fun r c2 r0 r1 g2 => ?_
        simp [s6]
        generalize hO : PyData.int 0 :: PyData.int 1 :: _ = O
        have hO' : ∀ d ∈ O, ∃ n : Int, d = .int n ∧ 0 ≤ n ∧ (n ≤ 11 ∨ n = 60 ∨ n = 300) := by
          rw [← hO]
          intro d hd
          simp at hd
          rcases hd with rfl | rfl | rfl | rfl | rfl | rfl
          · exact ⟨_, rfl, by decide, by decide⟩
          · exact ⟨_, rfl, by decide, by decide⟩
          · exact ⟨_, rfl, by decide, by decide⟩
          · exact ⟨_, rfl, r0, .inl (by omega)⟩
          · exact ⟨_, rfl, by decide, by decide⟩
          · exact ⟨_, rfl, by decide, by decide⟩
        clear hO
        refine el_inv (k := 0) (fun i ρ cs' => cs' = cs.set k (some c2) ∧ ∃ v2 v3 v4 v5 v8 v9 v10 v11, ρ = [some (.own k), some (.dat (dbl fs ps p1 q1 p2 q2)), v2, v3, v4, v5, some (.dat (.str (dbl fs ps p1 q1 p2 q2).shown)), some (.dat (lnsD (lnE fs (-1)))), v8, v9, v10, v11]) ⟨rfl, _, _, _, _, _, _, _, _, rfl⟩ ?_ ?_
        · rintro i d ρ cs' hx ⟨rfl, v2, v3, v4, v5, v8, v9, v10, v11, rfl⟩
          obtain ⟨n, rfl, n0, n1⟩ := hO' d (List.mem_of_getElem? hx)
          clear hx
          have nn : n.natAbs ≤ 300 := by omega
          have sm : LSm (lnE fs (-1)) := ⟨fun l hl => by
            obtain ⟨a, b, c⟩ := lnE_ok hd.f hl
            omega⟩
          have brg := bd_rg hd.f hbd nn
          have bo := boo n hbd n0 (by omega)
          have v12 : ∀ kk : Int, kk.natAbs ≤ 1000 → (n ≤ 11 → cutB fs n kk = true) → ∀ cs, ∃ d z, m_double_value [.dat (dbl fs ps p1 q1 p2 q2), .dat (.int (if 12 < n then 12 else n)), .dat (.int kk)] cs = some (.dat d, cs) ∧ dNe d (.tuple [.int 0, .int 1]) = some (db z) ∧ (n < 13 → z = false) := by
            intro kk hkk hcut cs
            rcases n1 with n1 | n1
            · rw [if_neg (by omega)]
              exact ⟨_, _, cutv n kk n0 (by omega) hkk (hcut n1) cs, dNe_refl rfl (by show 1 ≤ 100; decide), fun _ => rfl⟩
            · rw [if_pos (by omega)]
              obtain ⟨d, e, z, hz⟩ := hd.at12 hbd hkk cs
              exact ⟨d, z, e, hz, fun _ => by omega⟩
          simp
          refine em_of (lspan_eq sm (by omega)) ?_
          rcases bd_cases hd.f hbd nn with ⟨a, b', e1, e2, e3, e4'⟩ | ⟨a, b', e1, e2, e3, e4', e5, e6, e7⟩
          · have na : ¬ a ≤ b' := by omega
            rw [e3] at brg bo
            simp [e1, dLe_int, na, s2]
            refine em_of (okM_of (bo _)) ?_
            simp [pk2]
            refine em_of (okM_of (bo _)) ?_
            have dn : dIs not .none .none = some (db false) := rfl
            simp [repr_okG brg, dNe_str, s2, dn]
            generalize hK : PyData.int 0 :: PyData.int 1 :: _ = K
            have hK' : ∀ d ∈ K, ∃ kk : Int, d = .int kk ∧ kk.natAbs ≤ 1000 ∧ (n ≤ 11 → cutB fs n kk = true) := by
              rw [← hK]
              intro d hd
              simp at hd
              rcases hd with rfl | rfl
              · exact ⟨_, rfl, by omega, fun _ => e4' _⟩
              · exact ⟨_, rfl, by omega, fun _ => e4' _⟩
            clear hK
            refine el_inv (k := 0) (fun i ρ cs' => cs' = cs.set k (some c2) ∧ ∃ v2 v3 v5 v8 v9 v10 v11, ρ = [some (.own k), some (.dat (dbl fs ps p1 q1 p2 q2)), v2, v3, some (.dat (.int n)), v5, some (.dat (.str (dbl fs ps p1 q1 p2 q2).shown)), some (.dat (lnsD (lnE fs (-1)))), v8, v9, v10, v11]) ⟨rfl, _, _, _, _, _, _, _, rfl⟩ ?_ ?_
            · rintro i d ρ cs' hx ⟨rfl, v2, v3, v5, v8, v9, v10, v11, rfl⟩
              obtain ⟨kk, rfl, k1, k2⟩ := hK' d (List.mem_of_getElem? hx)
              clear hx
              obtain ⟨d, z, e, hz, hz2⟩ := v12 kk k1 k2 (cs.set k (some c2))
              simp [dMin2]
              refine em_of e ?_
              simp [s2, hz, dLt_int]
              intro hz3 hz4
              rw [hz2 hz4] at hz3
              cases hz3
            · rintro ρ cs' ⟨rfl, v2, v3, v5, v8, v9, v10, v11, rfl⟩
              exact ⟨rfl, _, _, _, _, _, _, _, _, rfl⟩
          · rw [e3] at brg bo
            simp [e1, dLe_int, e2, s2]
            refine em_of (okM_of (bo _)) ?_
            simp [pk2]
            refine em_of (okM_of (bo _)) ?_
            have dn : dIs not (.tuple [.int a, .int b']) .none = some (db true) := rfl
            simp [repr_okG brg, dNe_str, s2, dn, dSub_int, dAdd_int]
            generalize hK : PyData.int (a - 1) :: PyData.int (b' + 1) :: _ = K
            have hK' : ∀ d ∈ K, ∃ kk : Int, d = .int kk ∧ kk.natAbs ≤ 1000 ∧ (n ≤ 11 → cutB fs n kk = true) := by
              rw [← hK]
              intro d hd
              simp at hd
              rcases hd with rfl | rfl
              · exact ⟨_, rfl, by omega, fun _ => e4'⟩
              · exact ⟨_, rfl, by omega, fun _ => e5⟩
            clear hK
            refine el_inv (k := 0) (fun i ρ cs' => cs' = cs.set k (some c2) ∧ ∃ v2 v3 v5 v8 v9 v10 v11, ρ = [some (.own k), some (.dat (dbl fs ps p1 q1 p2 q2)), v2, v3, some (.dat (.int n)), v5, some (.dat (.str (dbl fs ps p1 q1 p2 q2).shown)), some (.dat (lnsD (lnE fs (-1)))), v8, v9, v10, v11]) ⟨rfl, _, _, _, _, _, _, _, rfl⟩ ?_ ?_
            · rintro i d ρ cs' hx ⟨rfl, v2, v3, v5, v8, v9, v10, v11, rfl⟩
              obtain ⟨kk, rfl, k1, k2⟩ := hK' d (List.mem_of_getElem? hx)
              clear hx
              obtain ⟨d, z, e, hz, hz2⟩ := v12 kk k1 k2 (cs.set k (some c2))
              simp [dMin2]
              refine em_of e ?_
              simp [s2, hz, dLt_int]
              intro hz3 hz4
              rw [hz2 hz4] at hz3
              cases hz3
            · rintro ρ cs' ⟨rfl, v2, v3, v5, v8, v9, v10, v11, rfl⟩
              exact ⟨rfl, _, _, _, _, _, _, _, _, rfl⟩
        · rintro ρ cs' ⟨rfl, v2, v3, v4, v5, v8, v9, v10, v11, rfl⟩
          simp [dSub_int, s1, s7]
          generalize hB : PyData.none :: PyData.bool true :: _ = B
          have hB' : B = bads := hB.symm
          clear hB
          refine el_inv (k := 0) (fun i ρ cs' => cs' = cs.set k (some c2) ∧ ∃ v2 v3 v4 v5 v8 v9 v10 v11, ρ = [some (.own k), some (.dat (dbl fs ps p1 q1 p2 q2)), v2, v3, v4, v5, some (.dat (.str (dbl fs ps p1 q1 p2 q2).shown)), some (.dat (lnsD (lnE fs (-1)))), v8, v9, v10, v11]) ⟨rfl, _, _, _, _, _, _, _, _, rfl⟩ ?_ ?_
          · rintro i x ρ cs' hx ⟨rfl, v2, v3, v4, v5, v8, v9, v10, v11, rfl⟩
            rw [hB'] at hx
            obtain ⟨rx, cx⟩ := bads_is (List.mem_of_getElem? hx)
            clear hx
            simp [s2, s3]
            refine em_of (caught2N rx (bon x hbd cx)) ?_
            simp [ne3, s3, repr_okG rx]
          · rintro ρ cs' ⟨rfl, v2, v3, v4, v5, v8, v9, v10, v11, rfl⟩
            simp [repr_okG ok0, dEq_str]
            rw [List.take_of_length_le (by simp)]
            exact h c2 (g2.mono (by omega))
      · -- not bounded
        have hbd : bndB (lnE fs (-1)) = false := by rw [eb, hpq]
        have hp : p = false ∨ q = false := by cases p <;> cases q <;> simp_all
        simp [hp]
        refine em_of (caught2S ok0 (unb _ hbd)) ?_
        simp [s3, eq3]
        refine em_of (caught2S ok0 (unb _ hbd)) ?_
        simp [s3, eq3]
        rw [List.take_of_length_le (by simp)]
        exact h c1 (g1.mono (by omega))
end My
namespace My
open PySem PySem.Spec PyProof.Rows L2 DL
/-! values that are none -/
def nbB (v : D) : Bool := vz v && decide (sz v ≤ 9000) && (match v with
  | .tuple [_, b, c, d, e] => cz b && cz e && pz 6 c && pz 6 d
  | _ => true) && !formB v
theorem nb_is {v : D} (h : nbB v = true) : Vb v ∧ formB v = false := by
  unfold nbB at h
  simp only [Bool.and_eq_true, decide_eq_true_eq, Bool.not_eq_true'] at h
  obtain ⟨⟨⟨h1, h2⟩, h3⟩, h4⟩ := h
  refine ⟨⟨⟨h1, h2⟩, fun a b c d e hv => ?_⟩, h4⟩
  subst hv
  simp only [Bool.and_eq_true] at h3
  exact ⟨h3.1.1.1, h3.1.1.2, h3.1.2, h3.2⟩
def oneD : D := .tuple [.int 1, .int 1]
def kD : D := .tuple [.int 0, .int 1, .int 0]
def p1D : D := .list [.list [.int 1]]
def fA : List D := [.list [.tuple [oneD, kD, .int 1], .tuple [oneD, kD, .int (-1)]], .list [.tuple [.tuple [.int 3, .int 2], kD, .int 1]], .list [.tuple [oneD, kD, .int 2]], .list [.tuple [oneD, kD, .bool true]], .list [.tuple [.tuple [.int 2, .int 4], kD, .int 1]], .list [.tuple [oneD, .tuple [.int 0, .bool true, .int 0], .int 1]], .list [.list [oneD, kD, .int 1]],
  .list [.tuple [oneD, .list [.int 0, .int 1, .int 0], .int 1]], .list [.tuple [.tuple [.int 0, .int 1], kD, .int 1]], .list [.tuple [oneD, kD]], .tuple [], .none]
def pA : List D := [.list [.list [.bool true]], .list [.list [.int 1, .int 0]], .list [.list [.int 1], .list []], .list [.tuple [.int 1]], .tuple [.list [.int 1]], .none, .list [.int 1]]
def bA : List D := [.tuple [.int 2, .int 4], .tuple [.bool true, .int 1], .tuple [.int 0, .int 1], .list [.int 1, .int 1], .tuple [.int 1, .int 0], .none]
def bB : List D := [.tuple [.int 2, .int 4], .tuple [.int 1, .bool true], .tuple [.int 0, .int 1], .list [.int 1, .int 1], .tuple [.int (-1), .int 0], .none]
def nF (x : D) : D := .tuple [.str "double", p1D, oneD, oneD, x]
def nP (x : D) : D := .tuple [.str "double", x, oneD, oneD, .list []]
def nA (x : D) : D := .tuple [.str "double", p1D, x, oneD, .list []]
def nB (x : D) : D := .tuple [.str "double", p1D, oneD, x, .list []]
def nX : D := .tuple [.str "Double", p1D, oneD, oneD, .list []]
def nY : D := .tuple [.list [.str "double"], p1D, oneD, oneD, .list []]
def noL : List D := fA.map nF ++ pA.map nP ++ bA.map nA ++ [nX] ++ bB.map nB ++ [nY]
def bdL : List D := [.none, .tuple [], .list [], .str "double", .int 7, .dict [], .tuple [.str "double", p1D, oneD, oneD], .tuple [.str "double", .list [.list [.int 0]], oneD, oneD, .list []], .tuple [.str "term", .list [.int 1], oneD, .list []]]
theorem all_nb : (bdL ++ noL).all nbB = true := by decide +kernel
end My
namespace My
open PySem PySem.Spec PyProof.Rows L2 DL
theorem nd_eq {cs : Cs} : ∃ z, m__law_no_doubles [] cs = some (z, cs) ∧ z = .fr noL := by
  refine em_exi ?_
  have s0 : 0 ≤ sizeLine := Nat.zero_le _
  have s1 : 1 ≤ sizeLine := le_size (by decide)
  have s2 : 2 ≤ sizeLine := le_size (by decide)
  have s3 : 3 ≤ sizeLine := le_size (by decide)
  have s5 : 5 ≤ sizeLine := le_size (by decide)
  have s6 : 6 ≤ sizeLine := le_size (by decide)
  have s7 : 7 ≤ sizeLine := le_size (by decide)
  have s12 : 12 ≤ sizeLine := le_size (by decide)
  unfold m__law_no_doubles
  rw [em_fnM]
  unfold b__law_no_doubles
  simp (maxSteps := 3000000) [dSub_int, dAdd_list, s1, s2, s3, s5, s6, s7, s12]
  generalize hF : PyData.list [PyData.tuple [PyData.tuple [PyData.int 1, PyData.int 1], PyData.tuple [PyData.int 0, PyData.int 1, PyData.int 0], PyData.int 1], _] :: _ = F
  have hF' : F = fA := hF.symm
  clear hF
  subst hF'
  refine ec_pure (fun _ => true) nF (fun x hx cs' => ?_) (le_size (by decide)) ?_
  · simp [wipeR, s5, s1]
    rfl
  · rw [List.nil_append, List.filter_eq_self.mpr (fun _ _ => rfl)]
    have lF : (fA.map nF).length = 12 := rfl
    obtain ⟨A, hA⟩ : ∃ A, A = fA.map nF := ⟨_, rfl⟩
    rw [← hA] at lF ⊢
    generalize hP : PyData.list [PyData.list [PyData.bool true]] :: _ = P
    have hP' : P = pA := hP.symm
    clear hP
    refine ec_pure (fun _ => true) nP (fun x hx cs' => ?_) (by rw [hP']; exact le_size (by decide)) ?_
    · simp [wipeR, s5]
      rfl
    · rw [List.nil_append, List.filter_eq_self.mpr (fun _ _ => rfl)]
      have lP : (P.map nP).length = 7 := by rw [hP']; rfl
      have z1 : A.length + (P.map nP).length ≤ sizeLine := le_size (by omega)
      refine ⟨z1, ?_⟩
      generalize hB : PyData.tuple [PyData.int 2, PyData.int 4] :: PyData.tuple [PyData.bool true, PyData.int 1] :: _ = B
      have hB' : B = bA := hB.symm
      clear hB
      refine ec_pure (fun _ => true) nA (fun x hx cs' => ?_) (by rw [hB']; exact le_size (by decide)) ?_
      · simp [wipeR, s5, s1]
        rfl
      · rw [List.nil_append, List.filter_eq_self.mpr (fun _ _ => rfl)]
        have lB : (B.map nA).length = 6 := by rw [hB']; rfl
        refine ⟨le_size (by omega), le_size (by omega), ?_⟩
        generalize hC : PyData.tuple [PyData.int 2, PyData.int 4] :: PyData.tuple [PyData.int 1, PyData.bool true] :: _ = C
        have hC' : C = bB := hC.symm
        clear hC
        refine ec_pure (fun _ => true) nB (fun x hx cs' => ?_) (by rw [hC']; exact le_size (by decide)) ?_
        · simp [wipeR, s5, s1]
          rfl
        · rw [List.nil_append, List.filter_eq_self.mpr (fun _ _ => rfl)]
          have lC : (C.map nB).length = 6 := by rw [hC']; rfl
          rw [hA, hP', hB', hC'] at *
          exact ⟨le_size (by decide), le_size (by decide), Nat.le_refl _, rfl, by simp⟩
end My
namespace My
open PySem PySem.Spec PyProof.Rows L2 DL
/-! the last ones, by number -/
def fcs1 : List Fc := [⟨1, 1, -1, 5, 20, 1⟩, ⟨1, 1, -1, 6, -20, -1⟩]
def fcs3 : List Fc := [⟨1, 1, -1, 2, 0, -1⟩, ⟨1, 1, -1, 3, 0, 1⟩, ⟨1, 1, 1, -1, 0, -1⟩]
def fcs2 : List Fc := [⟨1, 1, -1, 2, 0, 1⟩, ⟨1, 1, 0, 1, 0, -1⟩, ⟨1, 1, 1, -1, 0, -1⟩]
def oT (fs : List Fc) : D := T5 (.str "double") p1D oneD oneD fs
theorem oT_vb (fs : List Fc) (h : (vz (oT fs) && decide (sz (oT fs) ≤ 9000) && cz (dOf fs) && formB (oT fs)) = true) : Vb (oT fs) ∧ formB (oT fs) = true := by
  simp only [Bool.and_eq_true, decide_eq_true_eq] at h
  obtain ⟨⟨⟨h1, h2⟩, h3⟩, h4⟩ := h
  refine ⟨⟨⟨h1, h2⟩, fun a b c d e hv => ?_⟩, h4⟩
  unfold oT T5 at hv
  cases hv
  exact ⟨by decide +kernel, h3, by decide +kernel, by decide +kernel⟩
theorem k1 : Vb (oT fcs1) ∧ formB (oT fcs1) = true := oT_vb _ (by decide +kernel)
theorem k3 : Vb (oT fcs3) ∧ formB (oT fcs3) = true := oT_vb _ (by decide +kernel)
theorem k2 : Vb (oT fcs2) ∧ formB (oT fcs2) = true := oT_vb _ (by decide +kernel)
theorem k0 : Vb (.tuple [.str "double", .list [], oneD, oneD, .list []]) ∧ formB (.tuple [.str "double", .list [], oneD, oneD, .list []]) = true := by
  refine ⟨⟨⟨by decide +kernel, by decide +kernel⟩, fun a b c d e hv => ?_⟩, by decide +kernel⟩
  cases hv
  exact ⟨by decide +kernel, by decide +kernel, by decide +kernel, by decide +kernel⟩
theorem f3 : Fcs fcs3 := ⟨by decide, fun f hf => by
  simp [fcs3] at hf
  rcases hf with rfl | rfl | rfl
  · exact ⟨rs11', by decide, by decide, by decide, by decide⟩
  · exact ⟨rs11', by decide, by decide, by decide, by decide⟩
  · exact ⟨rs11', by decide, by decide, by decide, by decide⟩⟩
theorem f2 : Fcs fcs2 := ⟨by decide, fun f hf => by
  simp [fcs2] at hf
  rcases hf with rfl | rfl | rfl
  · exact ⟨rs11', by decide, by decide, by decide, by decide⟩
  · exact ⟨rs11', by decide, by decide, by decide, by decide⟩
  · exact ⟨rs11', by decide, by decide, by decide, by decide⟩⟩
theorem f0 : Fcs [] := ⟨by decide, by simp⟩
theorem u1 : lnE fcs1 1 = [⟨-1, 5, 20⟩] ∧ lnE fcs1 (-1) = [⟨-1, 6, -20⟩] := ⟨rfl, rfl⟩
theorem u3 : lnE fcs3 1 = [⟨-1, 3, 0⟩] ∧ lnE fcs3 (-1) = [⟨-1, 2, 0⟩, ⟨1, -1, 0⟩] := ⟨rfl, rfl⟩
theorem u2 : lnE fcs2 1 = [⟨-1, 2, 0⟩] ∧ lnE fcs2 (-1) = [⟨0, 1, 0⟩, ⟨1, -1, 0⟩] := ⟨rfl, rfl⟩
theorem e1 {cs : Cs} : m_is_sound_everywhere [.dat (dOf fcs1)] cs = some (.dat (.bool false), cs) := by
  obtain ⟨b, e, h⟩ := sound_gen (fs := fcs1) (cs := cs) (by decide) (by
    rw [u1.1, u1.2]
    intro u hu
    simp at hu
    subst hu
    refine ⟨by decide, fun l hl => ?_⟩
    simp [negL] at hl
    rcases hl with rfl | rfl <;> decide)
  rw [e]
  rcases h with ⟨rfl, h⟩ | ⟨rfl, _⟩
  · exfalso
    rw [u1.1, u1.2] at h
    refine h _ (List.mem_cons_self ..) 300 (by decide) ⟨?_, ?_⟩
    · intro l hl hb
      simp [negL] at hl
      rcases hl with rfl | rfl
      · cases hb
      · cases hb
    · intro l hl lb m hm mb
      simp [negL] at hl hm
      rcases hl with rfl | rfl
      · exact absurd lb (by decide)
      · rcases hm with rfl | rfl
        · decide
        · exact absurd mb (by decide)
  · rfl
theorem e3 {cs : Cs} : m_is_sound_everywhere [.dat (dOf fcs3)] cs = some (.dat (.bool true), cs) := by
  obtain ⟨b, e, h⟩ := sound_gen (fs := fcs3) (cs := cs) (by decide) fun u hu => lok_neg f3 hu
  rw [e]
  rcases h with ⟨rfl, h⟩ | ⟨rfl, h⟩
  · rfl
  · exfalso
    obtain ⟨u, hu, r, l, g, h1, _⟩ := h
    rw [u3.1] at hu
    simp at hu
    subst hu
    obtain ⟨l0, hf⟩ := one_some h1
    rw [u3.2] at hf
    have n0 : 0 ≤ l * (stepsN (lnE fcs3 (-1) ++ [negL ⟨-1, 3, 0⟩]) : Int) + r := by
      have := Int.mul_nonneg l0 (show 0 ≤ (stepsN (lnE fcs3 (-1) ++ [negL ⟨-1, 3, 0⟩]) : Int) by omega)
      omega
    rw [u3.2] at n0
    generalize l * (stepsN _ : Int) + r = n at hf n0
    have := hf.2 ⟨1, -3, -1⟩ (by simp [negL]) (by decide) ⟨-1, 2, 0⟩ (by simp) (by decide)
    have this : 0 ≤ (1 * n + (-1)) / (0 - (-3)) + ((-1) * n + 0) / 2 := this
    omega
theorem e2 {cs : Cs} : m_is_sound_everywhere [.dat (dOf fcs2)] cs = some (.dat (.bool false), cs) := by
  obtain ⟨b, e, h⟩ := sound_gen (fs := fcs2) (cs := cs) (by decide) fun u hu => lok_neg f2 hu
  rw [e]
  rcases h with ⟨rfl, h⟩ | ⟨rfl, _⟩
  · exfalso
    rw [u2.1, u2.2] at h
    refine h _ (List.mem_cons_self ..) 1 (by decide) ⟨?_, ?_⟩
    · intro l hl hb
      simp [negL] at hl
      rcases hl with rfl | rfl | rfl <;> cases hb
    · intro l hl lb m hm mb
      simp [negL] at hl hm
      rcases hl with rfl | rfl | rfl
      · exact absurd lb (by decide)
      · rcases hm with rfl | rfl | rfl
        · decide
        · exact absurd mb (by decide)
        · exact absurd mb (by decide)
      · rcases hm with rfl | rfl | rfl
        · decide
        · exact absurd mb (by decide)
        · exact absurd mb (by decide)
  · rfl
theorem b3 : bdD (lnE fcs3 (-1)) 7 = .tuple [.int 4, .int 7] := by rw [u3.2]; rfl
theorem b2 : bdD (lnE fcs2 (-1)) 7 = .tuple [.int 0, .int 7] := by rw [u2.2]; rfl
end My
namespace My
open PySem PySem.Spec PyProof.Rows L2 DL
theorem law_eq {ns : List Int} (hl : ns.length ≤ 63) (hb : ∀ z ∈ ns, Builtin.Int.intBits z ≤ 1048576) : m_law [.dat (.list (ns.map .int))] [] = some (.dat (.bool true), []) := by
  have s0 : 0 ≤ sizeLine := Nat.zero_le _
  have s1 : 1 ≤ sizeLine := le_size (by decide)
  have s2 : 2 ≤ sizeLine := le_size (by decide)
  have s3 : 3 ≤ sizeLine := le_size (by decide)
  have s4 : 4 ≤ sizeLine := le_size (by decide)
  have s5 : 5 ≤ sizeLine := le_size (by decide)
  have s9 : 9 ≤ sizeLine := le_size (by decide)
  refine em_eq ?_
  unfold m_law
  rw [em_fnM]
  unfold b_law
  simp
  refine ⟨by constructor <;> decide, ?_⟩
  refine el_inv (k := 0) (fun i ρ cs => ∃ a1 a2 a3 a4 a5 a6 a7 a8 a9, ρ = [some (.dat (.list (ns.map .int))), a1, a2, a3, a4, a5, a6, a7, a8, a9]) ⟨none, none, none, none, none, none, none, none, none, rfl⟩ ?_ ?_
  · rintro i d ρ cs hd ⟨a1, a2, a3, a4, a5, a6, a7, a8, a9, rfl⟩
    obtain ⟨j, hj, rfl⟩ := rng_mem (List.mem_of_getElem? hd)
    have hj' : j < 3 := hj
    clear hd
    simp
    refine generator_em (by omega) (by omega) hb (by omega) fun g gs => ?_
    simp
    refine ⟨by constructor <;> decide, ?_⟩
    refine el_inv (k := 0) (fun i' ρ cs' => ∃ c, cs' = cs ++ [some c] ∧ Gs (1000 * (j : Int) + 50000 * i') c ∧ i' ≤ 5 ∧ ∃ a1 a2 a3 a4 a5 a7 a8 a9, ρ = [some (.dat (.list (ns.map .int))), a1, a2, a3, a4, a5, some (.own cs.length), a7, a8, a9]) ⟨g, rfl, gs.mono (by omega), by decide, _, _, _, _, _, _, _, _, rfl⟩ ?_ ?_
    · rintro i' d ρ cs' hd ⟨c, rfl, gc, hi, a1, a2, a3, a4, a5, a7, a8, a9, rfl⟩
      have hi2 : i' < 5 := (List.getElem?_eq_some_iff.mp hd).1
      clear hd
      rw [Nat.zero_add] at *
      simp
      refine right_em (k := cs.length) (c0 := c) (by simp) gc (by omega) fun c1 g1 => ?_
      simp
      exact ⟨g1.mono (by omega), by omega⟩
    · rintro ρ cs' ⟨c, rfl, gc, hi, a1, a2, a3, a4, a5, a7, a8, a9, rfl⟩
      simp
  · rintro ρ cs ⟨a1, a2, a3, a4, a5, a6, a7, a8, a9, rfl⟩
    simp (maxSteps := 2000000) [s0, s1, s2, s3, s4, s5, s9, dSub_int]
    obtain ⟨z, ez, hz⟩ := nd_eq (cs := cs)
    subst hz
    refine em_of ez ?_
    have ad : dAdd (.list bdL) (.list noL) = some (.fr (bdL ++ noL)) := by
      rw [dAdd_list, if_pos (le_size (by decide))]
    have hall : ∀ d ∈ bdL ++ noL, nbB d = true := fun d hd => List.all_eq_true.mp all_nb d hd
    generalize hBd : PyData.list (PyData.none :: PyData.tuple [] :: _) = BB
    have hBB : BB = .list bdL := hBd.symm
    clear hBd
    subst hBB
    unfold O2
    rw [rd1_dat, rd1_fr, ad]
    generalize bdL ++ noL = L at hall
    have dn2 : ∀ x : Bool, dIs not (.bool x) (.bool false) = some (db x) := fun x => by cases x <;> rfl
    simp
    refine el_inv (k := 0) (fun i ρ cs' => cs' = cs ∧ ∃ v1 v2 v3 v4 v5 v6 v7 v8 v9, ρ = [some (.dat (.list (ns.map .int))), v1, v2, v3, v4, v5, v6, v7, v8, v9]) ⟨rfl, _, _, _, _, _, _, _, _, _, rfl⟩ ?_ ?_
    · rintro i v ρ cs' hv ⟨rfl, v1, v2, v3, v4, v5, v6, v7, v8, v9, rfl⟩
      obtain ⟨vv, hf⟩ := nb_is (hall v (List.mem_of_getElem? hv))
      clear hv
      have rv := vv.va.rg
      simp [s2]
      refine el_inv (k := 0) (fun i ρ cs2 => cs2 = cs' ∧ ∃ v1 v2 v4 v5 v6 v7 v8 v9, ρ = [some (.dat (.list (ns.map .int))), v1, v2, some (.dat v), v4, v5, v6, v7, v8, v9]) ⟨rfl, _, _, _, _, _, _, _, _, rfl⟩ ?_ ?_
      · rintro i x ρ cs2 hx ⟨rfl, v1, v2, v4, v5, v6, v7, v8, v9, rfl⟩
        simp [s2]
        refine em_of (caught2S rv fun cs => bo_bad vv.ok hf) ?_
        simp [s3, ne3, repr_okG rv]
      · rintro ρ cs2 ⟨rfl, v1, v2, v4, v5, v6, v7, v8, v9, rfl⟩
        simp [s2]
        refine ec_pure (fun _ => false) id (fun x hx cs2 => ?_) (le_size (by show 0 + 2 ≤ _; decide)) ?_
        · simp at hx
          rcases hx with rfl | rfl
          · simp [wipeR, s1]
            refine em_of (caught1s rv fun cs => so_bad vv.ok hf) ?_
            simp [s3, ne3, repr_okG rv]
          · simp [wipeR, s1]
            refine em_of (caught1b rv fun cs => bd_bad vv.ok hf) ?_
            simp [s3, ne3, repr_okG rv]
        · simp [dNe_nil (l := []) rfl]
    · rintro ρ cs' ⟨rfl, v1, v2, v3, v4, v5, v6, v7, v8, v9, rfl⟩
      simp (maxSteps := 2000000) [s0, s1, s2, s3, s4, s5, s9, dSub_int]
      have q1 : ∀ cs, m_is_sound [.dat (oT fcs1)] cs = some (.ok (.dat (.bool false)) cs) := fun cs => so_gen (fun b' e hv => k1.1.ok _ _ _ _ _ hv) k1.2 fun cs => e1
      have q3 : ∀ cs, m_is_sound [.dat (oT fcs3)] cs = some (.ok (.dat (.bool true)) cs) := fun cs => so_gen (fun b' e hv => k3.1.ok _ _ _ _ _ hv) k3.2 fun cs => e3
      have q2 : ∀ cs, m_is_sound [.dat (oT fcs2)] cs = some (.ok (.dat (.bool false)) cs) := fun cs => so_gen (fun b' e hv => k2.1.ok _ _ _ _ _ hv) k2.2 fun cs => e2
      have q4 : ∀ cs, m_bounds_of [.dat (oT fcs3), .dat (.int 7)] cs = some (.ok (.dat (.tuple [.int 4, .int 7])) cs) := fun cs => by
        have := bo_ok (cs := cs) (n := 7) (fun b' e hv => k3.1.ok _ _ _ _ _ hv) k3.2 f3 (by rw [u3.2]; rfl) (by decide) (by decide)
        rw [b3] at this
        exact this
      have q5 : ∀ cs, m_bounds_of [.dat (oT fcs2), .dat (.int 7)] cs = some (.ok (.dat (.tuple [.int 0, .int 7])) cs) := fun cs => by
        have := bo_ok (cs := cs) (n := 7) (fun b' e hv => k2.1.ok _ _ _ _ _ hv) k2.2 f2 (by rw [u2.2]; rfl) (by decide) (by decide)
        rw [b2] at this
        exact this
      have q6 : ∀ cs, m_is_bounded [.dat (T5 (.str "double") (.list []) oneD oneD [])] cs = some (.ok (.dat (.bool false)) cs) := fun cs => bd_ok (fun b' e hv => k0.1.ok _ _ _ _ _ hv) k0.2 f0
      refine em_of (okM_of (q1 _)) ?_
      simp (maxSteps := 2000000) [s0, s1, s2, s3, s4, s5, s9, dSub_int, dn2]
      refine em_of (okM_of (q3 _)) ?_
      refine em_of (okM_of (q2 _)) ?_
      refine em_of (okM_of (q4 _)) ?_
      refine em_of (okM_of (q5 _)) ?_
      refine em_of (okM_of (q6 _)) ?_
      have ee : dEq (.list [.bool true, .bool false, .tuple [.int 4, .int 7], .tuple [.int 0, .int 7], .bool false]) (.list [.bool true, .bool false, .tuple [.int 4, .int 7], .tuple [.int 0, .int 7], .bool false]) = some (db true) := dEq_refl rfl (by simp only [PyData.depth, PyData.depthAll]; decide)
      simp [s5, s2, ee]
end My
namespace My
open PySem PySem.Spec PyProof.Rows L2 DL
def top (i : Nat) : Stmt := PySem.Challenge.pw_eversame_k47_whole_sound_and_bounded.main.body.getD i (.Pass ⟨0, 0, 0, 0⟩)
abbrev s_is_whole : Stmt := top 5
abbrev s_is_count : Stmt := top 6
abbrev s_check_number : Stmt := top 7
abbrev s_common_of : Stmt := top 9
abbrev s_is_fraction : Stmt := top 10
abbrev s_lowest_of : Stmt := top 11
abbrev s_is_poly : Stmt := top 13
abbrev s_cut_poly : Stmt := top 14
abbrev s_worth_in : Stmt := top 15
abbrev s_power_in : Stmt := top 16
abbrev s_is_double : Stmt := top 18
abbrev s_worths_of_parts : Stmt := top 19
abbrev s_is_line_told : Stmt := top 20
abbrev s_is_rising_start : Stmt := top 23
abbrev s_is_factor : Stmt := top 24
abbrev s_are_factors : Stmt := top 25
abbrev s_rising_parts : Stmt := top 26
abbrev s_line_worth : Stmt := top 27
abbrev s_whole_lines : Stmt := top 28
abbrev s_span_where : Stmt := top 29
abbrev s_is_cut : Stmt := top 30
abbrev s_factors_worth : Stmt := top 31
abbrev s_power_parts : Stmt := top 32
abbrev s_has_double_form : Stmt := top 35
abbrev s_steps_of : Stmt := top 36
abbrev s_by_steps : Stmt := top 37
abbrev s_last_without : Stmt := top 38
abbrev s_last_missing : Stmt := top 39
abbrev s_is_sound_everywhere : Stmt := top 40
abbrev s_check_double_term : Stmt := top 42
abbrev s_is_there : Stmt := top 43
abbrev s_double_value_in : Stmt := top 44
abbrev s_double_value : Stmt := top 45
abbrev s_is_sound : Stmt := top 46
abbrev s_is_bounded_in : Stmt := top 47
abbrev s_is_bounded : Stmt := top 48
abbrev s_span_of_k : Stmt := top 49
abbrev s_bounds_of : Stmt := top 50
abbrev s__law_hash : Stmt := top 52
abbrev s__law_cell : Stmt := top 53
abbrev s__law_random : Stmt := top 54
abbrev s__law_generator : Stmt := top 55
abbrev s__law_pick : Stmt := top 56
abbrev s__law_cut : Stmt := top 57
abbrev s__law_lines : Stmt := top 58
abbrev s__law_start : Stmt := top 59
abbrev s__law_base : Stmt := top 60
abbrev s__law_poly : Stmt := top 61
abbrev s__law_raw_factor : Stmt := top 62
abbrev s__law_double_poly : Stmt := top 63
abbrev s__law_rims : Stmt := top 64
abbrev s__law_raw_double : Stmt := top 65
abbrev s__law_span : Stmt := top 66
abbrev s__law_is_some : Stmt := top 67
abbrev s__law_lacks : Stmt := top 68
abbrev s__law_sound_double : Stmt := top 69
abbrev s__law_caught : Stmt := top 70
abbrev s__law_right : Stmt := top 71
abbrev s__law_no_doubles : Stmt := top 72
abbrev s_law : Stmt := top 73
structure Fre (P : Program) (K : PySem.W.Frag) (mg : Str → Option Value) : Prop where
  f_super : mg "super" = none
  f_abs : mg "abs" = none
  f_all : mg "all" = none
  f_any : mg "any" = none
  f_bool : mg "bool" = none
  f_int : mg "int" = none
  f_isinstance : mg "isinstance" = none
  f_len : mg "len" = none
  f_list : mg "list" = none
  f_max : mg "max" = none
  f_min : mg "min" = none
  f_range : mg "range" = none
  f_repr : mg "repr" = none
  f_sorted : mg "sorted" = none
  f_str : mg "str" = none
  f_sum : mg "sum" = none
  f_tuple : mg "tuple" = none
  f_zip : mg "zip" = none
  c_WORD_DOUBLE : ∃ t, mg "WORD_DOUBLE" = some (.str "double" t)
  g_ONE : GVal K mg "ONE" (.tuple [(.int 1), (.int 1)])
  cl_InvalidNumber : ∃ C, ClsOf K mg "InvalidNumber" C
  cl_InvalidSum : ∃ C, ClsOf K mg "InvalidSum" C
  be_SameError : ∃ C, ClsOf K mg "SameError" C ∧ PySem.W.subIn K (.ref C) (.type "BaseException") = some true
  sysd : SysD K
  fv_bounds_of : FnV K mg "bounds_of"
  fv_is_bounded : FnV K mg "is_bounded"
  fv_is_sound : FnV K mg "is_sound"
  ra_InvalidNumber : RaC P K mg "InvalidNumber"
  ra_InvalidSum : RaC P K mg "InvalidSum"

abbrev Fu (K : PySem.W.Frag) (mg : Str → Option Value) (x : Str) (st : Stmt) : Prop := ∃ f fd, FunD K x x (defArgs st) (defBody st) (defScope st) [] [] f fd ∧ mg x = some (.ref f)
section
variable {P : Program} {w : World} {K : PySem.W.Frag} {mg : Str → Option Value} {base : Heap}
theorem sc_is_whole : FnScope ["value"] ["value"] (defScope s_is_whole) := ⟨rfl, rfl, rfl, by decide +kernel, rfl, by decide +kernel, by decide +kernel⟩
theorem ok_is_whole (fr : Fre P K mg) (F : Fu K mg "is_whole" s_is_whole)  : Cal P w K mg base 1 "is_whole" s_is_whole ["value"] m_is_whole :=
  cal_of (k := 0) (N := ["value"]) (b := b_is_whole) F sc_is_whole (fun _ _ _ _ _ _ us hl => match us, hl with | [_], _ => rfl) fun f cdv A outer s H hr rm =>
  (xs_one (xs_ret (xe_and (xe_isi rfl fr.f_isinstance rfl fr.f_int (by decide +kernel) (w_var 0)) (xe_and1 (xe_not (xe_isi rfl fr.f_isinstance rfl fr.f_bool (by decide +kernel) (w_var 0)))))))
theorem sc_is_count : FnScope ["value"] ["value"] (defScope s_is_count) := ⟨rfl, rfl, rfl, by decide +kernel, rfl, by decide +kernel, by decide +kernel⟩
theorem ok_is_count (fr : Fre P K mg) (F : Fu K mg "is_count" s_is_count) (C_is_whole : Cal P w K mg base 1 "is_whole" s_is_whole ["value"] m_is_whole) : Cal P w K mg base 2 "is_count" s_is_count ["value"] m_is_count :=
  cal_of (k := 1) (N := ["value"]) (b := b_is_count) F sc_is_count (fun _ _ _ _ _ _ us hl => match us, hl with | [_], _ => rfl) fun f cdv A outer s H hr rm =>
  (xs_one (xs_ret (xe_and (w_call C_is_whole hr rm (xa_cons (w_var 0) xa_nil)) (xe_and1 (xe_ge rm (w_var 0) xe_int)))))
theorem sc_check_number : FnScope ["value"] ["value"] (defScope s_check_number) := ⟨rfl, rfl, rfl, by decide +kernel, rfl, by decide +kernel, by decide +kernel⟩
theorem ok_check_number (fr : Fre P K mg) (F : Fu K mg "check_number" s_check_number) (C_is_count : Cal P w K mg base 2 "is_count" s_is_count ["value"] m_is_count) : CalX P w K mg base 3 "check_number" s_check_number ["value"] m_check_number :=
  calX_of (k := 2) (N := ["value"]) (b := b_check_number) F sc_check_number (fun _ _ _ _ _ _ us hl => match us, hl with | [_], _ => rfl) fun f cdv A outer s H E hr rm hc =>
  (xsx_one (x1_if (xt_not (xt_of (w_call C_is_count hr rm (xa_cons (w_var 0) xa_nil)))) (xsx_one (w_raise fr.ra_InvalidNumber hr rm (w_var 0))) xsx_nil))
theorem sc_common_of : FnScope ["one", "other"] ["one", "other"] (defScope s_common_of) := ⟨rfl, rfl, rfl, by decide +kernel, rfl, by decide +kernel, by decide +kernel⟩
theorem ok_common_of (fr : Fre P K mg) (F : Fu K mg "common_of" s_common_of)  : Cal P w K mg base 1 "common_of" s_common_of ["one", "other"] m_common_of :=
  cal_of (k := 0) (N := ["one", "other"]) (b := b_common_of) F sc_common_of (fun _ _ _ _ _ _ us hl => match us, hl with | [_, _], _ => rfl) fun f cdv A outer s H hr rm =>
  (xs_cons (xs_parO (i := 0) (j := 1) rfl sc_common_of.nd (xao_dat (xe_abs rfl fr.f_abs (xa_cons (w_var 0) xa_nil)) (xao_dat (xe_abs rfl fr.f_abs (xa_cons (w_var 1) xa_nil)) xao_nil)))
  (xs_cons (w_while (xt_gt rm (w_var 1) xe_int) (xs_one (xs_parO (i := 0) (j := 1) rfl sc_common_of.nd (xao_dat (w_var 1) (xao_dat (xe_mod (w_var 0) (w_var 1)) xao_nil)))))
  (xs_one (xs_ret (w_var 0)))))
theorem sc_is_fraction : FnScope ["value"] ["value"] (defScope s_is_fraction) := ⟨rfl, rfl, rfl, by decide +kernel, rfl, by decide +kernel, by decide +kernel⟩
theorem ok_is_fraction (fr : Fre P K mg) (F : Fu K mg "is_fraction" s_is_fraction) (C_is_whole : Cal P w K mg base 1 "is_whole" s_is_whole ["value"] m_is_whole) (C_common_of : Cal P w K mg base 1 "common_of" s_common_of ["one", "other"] m_common_of) : Cal P w K mg base 2 "is_fraction" s_is_fraction ["value"] m_is_fraction :=
  cal_of (k := 1) (N := ["value"]) (b := b_is_fraction) F sc_is_fraction (fun _ _ _ _ _ _ us hl => match us, hl with | [_], _ => rfl) fun f cdv A outer s H hr rm =>
  (xs_cons (xs_if (xt_w (xw_or (xt_not (xt_of (xe_isi rfl fr.f_isinstance rfl fr.f_tuple (by decide +kernel) (w_var 0)))) (xw_or (xt_ne rm (xe_len rfl fr.f_len (xa_cons (w_var 0) xa_nil)) xe_int) (xw_or (xt_not (xt_of (w_call C_is_whole hr rm (xa_cons (xe_item (w_var 0) xe_int) xa_nil)))) (xw_or1 (xt_not (xt_of (w_call C_is_whole hr rm (xa_cons (xe_item (w_var 0) xe_int) xa_nil))))))))) (xs_one (xs_ret xe_bl)) xs_nil)
  (xs_one (xs_ret (xe_and (xe_ge rm (xe_item (w_var 0) xe_int) xe_int) (xe_and1 (xe_eq rm (w_call C_common_of hr rm (xa_cons (xe_item (w_var 0) xe_int) (xa_cons (xe_item (w_var 0) xe_int) xa_nil))) xe_int))))))
theorem sc_lowest_of : FnScope ["above", "below", "part"] ["above", "below"] (defScope s_lowest_of) := ⟨rfl, rfl, rfl, by decide +kernel, rfl, by decide +kernel, by decide +kernel⟩
theorem ok_lowest_of (fr : Fre P K mg) (F : Fu K mg "lowest_of" s_lowest_of) (C_common_of : Cal P w K mg base 1 "common_of" s_common_of ["one", "other"] m_common_of) : Cal P w K mg base 2 "lowest_of" s_lowest_of ["above", "below"] m_lowest_of :=
  cal_of (k := 1) (N := ["above", "below", "part"]) (b := b_lowest_of) F sc_lowest_of (fun _ _ _ _ _ _ us hl => match us, hl with | [_, _], _ => rfl) fun f cdv A outer s H hr rm =>
  (xs_cons (w_set 2 sc_lowest_of.nd (w_call C_common_of hr rm (xa_cons (w_var 0) (xa_cons (w_var 1) xa_nil))))
  (xs_cons (xs_if (xt_lt rm (w_var 1) xe_int) (xs_one (w_set 2 sc_lowest_of.nd (xe_sub xe_int (w_var 2)))) xs_nil)
  (xs_one (xs_ret (xe_tup (xa_cons (xe_div (w_var 0) (w_var 2)) (xa_cons (xe_div (w_var 1) (w_var 2)) xa_nil)))))))
theorem sc_is_poly : FnScope ["value", "number"] ["value"] (defScope s_is_poly) := ⟨rfl, rfl, rfl, by decide +kernel, rfl, by decide +kernel, by decide +kernel⟩
theorem ok_is_poly (fr : Fre P K mg) (F : Fu K mg "is_poly" s_is_poly) (C_is_whole : Cal P w K mg base 1 "is_whole" s_is_whole ["value"] m_is_whole) : Cal P w K mg base 2 "is_poly" s_is_poly ["value"] m_is_poly :=
  cal_of (k := 1) (N := ["value", "number"]) (b := b_is_poly) F sc_is_poly (fun _ _ _ _ _ _ us hl => match us, hl with | [_], _ => rfl) fun f cdv A outer s H hr rm =>
  (xs_cons (xs_if (xt_w (xw_or (xt_not (xt_of (xe_isi rfl fr.f_isinstance rfl fr.f_list (by decide +kernel) (w_var 0)))) (xw_or1 (xt_not (xt_of (xe_all rm rfl fr.f_all (xa_cons (xe_comp (own := [("number", 1)]) rfl sc_is_poly.nd (xi_seq (w_var 0)) (blkOk_by rfl) (fun _ _ _ _ _ => (w_gn 1 sc_is_poly.nd)) (fun _ _ _ _ _ => xts_nil) (fun _ _ _ _ _ => (w_call C_is_whole hr rm.blk (xa_cons (w_var 1) xa_nil)))) xa_nil))))))) (xs_one (xs_ret xe_bl)) xs_nil)
  (xs_one (xs_ret (xe_or (xe_eq rm (w_var 0) (xe_lst xa_nil)) (xe_or1 (xe_ne rm (xe_item (w_var 0) (xe_neg xe_int)) xe_int))))))
theorem sc_cut_poly : FnScope ["numbers", "many"] ["numbers"] (defScope s_cut_poly) := ⟨rfl, rfl, rfl, by decide +kernel, rfl, by decide +kernel, by decide +kernel⟩
theorem ok_cut_poly (fr : Fre P K mg) (F : Fu K mg "cut_poly" s_cut_poly)  : Cal P w K mg base 1 "cut_poly" s_cut_poly ["numbers"] m_cut_poly :=
  cal_of (k := 0) (N := ["numbers", "many"]) (b := b_cut_poly) F sc_cut_poly (fun _ _ _ _ _ _ us hl => match us, hl with | [_], _ => rfl) fun f cdv A outer s H hr rm =>
  (xs_cons (w_set 1 sc_cut_poly.nd (xe_len rfl fr.f_len (xa_cons (w_var 0) xa_nil)))
  (xs_cons (w_while (xt_w (xw_and (xt_gt rm (w_var 1) xe_int) (xw_and1 (xt_eq rm (xe_item (w_var 0) (xe_sub (w_var 1) xe_int)) xe_int)))) (xs_one (w_set 1 sc_cut_poly.nd (xe_sub (w_var 1) xe_int))))
  (xs_one (xs_ret (xe_slice (w_var 0) xo_none (xo_some (w_var 1)))))))
theorem sc_worth_in : FnScope ["poly", "number", "found", "coefficient"] ["poly", "number"] (defScope s_worth_in) := ⟨rfl, rfl, rfl, by decide +kernel, rfl, by decide +kernel, by decide +kernel⟩
theorem ok_worth_in (fr : Fre P K mg) (F : Fu K mg "worth_in" s_worth_in)  : Cal P w K mg base 1 "worth_in" s_worth_in ["poly", "number"] m_worth_in :=
  cal_of (k := 0) (N := ["poly", "number", "found", "coefficient"]) (b := b_worth_in) F sc_worth_in (fun _ _ _ _ _ _ us hl => match us, hl with | [_, _], _ => rfl) fun f cdv A outer s H hr rm =>
  (xs_cons (w_set 2 sc_worth_in.nd xe_int)
  (xs_cons (w_for [3] (xi_seq (xe_rev (w_var 0))) (w_gn 3 sc_worth_in.nd) (xs_one (w_set 2 sc_worth_in.nd (xe_add (xe_mul (w_var 2) (w_var 1)) (w_var 3)))))
  (xs_one (xs_ret (w_var 2)))))
theorem sc_power_in : FnScope ["number", "times", "found", "turn"] ["number", "times"] (defScope s_power_in) := ⟨rfl, rfl, rfl, by decide +kernel, rfl, by decide +kernel, by decide +kernel⟩
theorem ok_power_in (fr : Fre P K mg) (F : Fu K mg "power_in" s_power_in)  : Cal P w K mg base 1 "power_in" s_power_in ["number", "times"] m_power_in :=
  cal_of (k := 0) (N := ["number", "times", "found", "turn"]) (b := b_power_in) F sc_power_in (fun _ _ _ _ _ _ us hl => match us, hl with | [_, _], _ => rfl) fun f cdv A outer s H hr rm =>
  (xs_cons (w_set 2 sc_power_in.nd xe_int)
  (xs_cons (w_for [3] (xi_range1 rfl fr.f_range (xa_cons (w_var 1) xa_nil)) (w_gn 3 sc_power_in.nd) (xs_one (w_set 2 sc_power_in.nd (xe_mul (w_var 2) (w_var 0)))))
  (xs_one (xs_ret (w_var 2)))))
theorem sc_is_double : FnScope ["value", "poly"] ["value"] (defScope s_is_double) := ⟨rfl, rfl, rfl, by decide +kernel, rfl, by decide +kernel, by decide +kernel⟩
theorem ok_is_double (fr : Fre P K mg) (F : Fu K mg "is_double" s_is_double) (C_is_poly : Cal P w K mg base 2 "is_poly" s_is_poly ["value"] m_is_poly) : Cal P w K mg base 3 "is_double" s_is_double ["value"] m_is_double :=
  cal_of (k := 2) (N := ["value", "poly"]) (b := b_is_double) F sc_is_double (fun _ _ _ _ _ _ us hl => match us, hl with | [_], _ => rfl) fun f cdv A outer s H hr rm =>
  (xs_cons (xs_if (xt_w (xw_or (xt_not (xt_of (xe_isi rfl fr.f_isinstance rfl fr.f_list (by decide +kernel) (w_var 0)))) (xw_or1 (xt_not (xt_of (xe_all rm rfl fr.f_all (xa_cons (xe_comp (own := [("poly", 1)]) rfl sc_is_double.nd (xi_seq (w_var 0)) (blkOk_by rfl) (fun _ _ _ _ _ => (w_gn 1 sc_is_double.nd)) (fun _ _ _ _ _ => xts_nil) (fun _ _ _ _ _ => (w_call C_is_poly hr rm.blk (xa_cons (w_var 1) xa_nil)))) xa_nil))))))) (xs_one (xs_ret xe_bl)) xs_nil)
  (xs_one (xs_ret (xe_or (xe_eq rm (w_var 0) (xe_lst xa_nil)) (xe_or1 (xe_ne rm (xe_item (w_var 0) (xe_neg xe_int)) (xe_lst xa_nil)))))))
theorem sc_worths_of_parts : FnScope ["double", "number", "poly"] ["double", "number"] (defScope s_worths_of_parts) := ⟨rfl, rfl, rfl, by decide +kernel, rfl, by decide +kernel, by decide +kernel⟩
theorem ok_worths_of_parts (fr : Fre P K mg) (F : Fu K mg "worths_of_parts" s_worths_of_parts) (C_cut_poly : Cal P w K mg base 1 "cut_poly" s_cut_poly ["numbers"] m_cut_poly) (C_worth_in : Cal P w K mg base 1 "worth_in" s_worth_in ["poly", "number"] m_worth_in) : Cal P w K mg base 2 "worths_of_parts" s_worths_of_parts ["double", "number"] m_worths_of_parts :=
  cal_of (k := 1) (N := ["double", "number", "poly"]) (b := b_worths_of_parts) F sc_worths_of_parts (fun _ _ _ _ _ _ us hl => match us, hl with | [_, _], _ => rfl) fun f cdv A outer s H hr rm =>
  (xs_one (xs_ret (w_call C_cut_poly hr rm (xa_cons (xe_comp (own := [("poly", 2)]) rfl sc_worths_of_parts.nd (xi_seq (w_var 0)) (blkOk_by rfl) (fun _ _ _ _ _ => (w_gn 2 sc_worths_of_parts.nd)) (fun _ _ _ _ _ => xts_nil) (fun _ _ _ _ _ => (w_call C_worth_in hr rm.blk (xa_cons (w_var 2) (xa_cons (w_var 1) xa_nil))))) xa_nil))))
theorem sc_is_line_told : FnScope ["value", "number"] ["value"] (defScope s_is_line_told) := ⟨rfl, rfl, rfl, by decide +kernel, rfl, by decide +kernel, by decide +kernel⟩
theorem ok_is_line_told (fr : Fre P K mg) (F : Fu K mg "is_line_told" s_is_line_told) (C_is_whole : Cal P w K mg base 1 "is_whole" s_is_whole ["value"] m_is_whole) : Cal P w K mg base 2 "is_line_told" s_is_line_told ["value"] m_is_line_told :=
  cal_of (k := 1) (N := ["value", "number"]) (b := b_is_line_told) F sc_is_line_told (fun _ _ _ _ _ _ us hl => match us, hl with | [_], _ => rfl) fun f cdv A outer s H hr rm =>
  (xs_one (xs_ret (xe_and (xe_isi rfl fr.f_isinstance rfl fr.f_tuple (by decide +kernel) (w_var 0)) (xe_and (xe_eq rm (xe_len rfl fr.f_len (xa_cons (w_var 0) xa_nil)) xe_int) (xe_and1 (xe_all rm rfl fr.f_all (xa_cons (xe_comp (own := [("number", 1)]) rfl sc_is_line_told.nd (xi_seq (w_var 0)) (blkOk_by rfl) (fun _ _ _ _ _ => (w_gn 1 sc_is_line_told.nd)) (fun _ _ _ _ _ => xts_nil) (fun _ _ _ _ _ => (w_call C_is_whole hr rm.blk (xa_cons (w_var 1) xa_nil)))) xa_nil)))))))
theorem sc_is_rising_start : FnScope ["value"] ["value"] (defScope s_is_rising_start) := ⟨rfl, rfl, rfl, by decide +kernel, rfl, by decide +kernel, by decide +kernel⟩
theorem ok_is_rising_start (fr : Fre P K mg) (F : Fu K mg "is_rising_start" s_is_rising_start) (C_is_fraction : Cal P w K mg base 2 "is_fraction" s_is_fraction ["value"] m_is_fraction) : Cal P w K mg base 3 "is_rising_start" s_is_rising_start ["value"] m_is_rising_start :=
  cal_of (k := 2) (N := ["value"]) (b := b_is_rising_start) F sc_is_rising_start (fun _ _ _ _ _ _ us hl => match us, hl with | [_], _ => rfl) fun f cdv A outer s H hr rm =>
  (xs_one (xs_ret (xe_and (w_call C_is_fraction hr rm (xa_cons (w_var 0) xa_nil)) (xe_and1 (xe_chain op_lt op_le xe_int (xe_item (w_var 0) xe_int) (xe_item (w_var 0) xe_int))))))
theorem sc_is_factor : FnScope ["value"] ["value"] (defScope s_is_factor) := ⟨rfl, rfl, rfl, by decide +kernel, rfl, by decide +kernel, by decide +kernel⟩
theorem ok_is_factor (fr : Fre P K mg) (F : Fu K mg "is_factor" s_is_factor) (C_is_rising_start : Cal P w K mg base 3 "is_rising_start" s_is_rising_start ["value"] m_is_rising_start) (C_is_line_told : Cal P w K mg base 2 "is_line_told" s_is_line_told ["value"] m_is_line_told) (C_is_whole : Cal P w K mg base 1 "is_whole" s_is_whole ["value"] m_is_whole) : Cal P w K mg base 4 "is_factor" s_is_factor ["value"] m_is_factor :=
  cal_of (k := 3) (N := ["value"]) (b := b_is_factor) F sc_is_factor (fun _ _ _ _ _ _ us hl => match us, hl with | [_], _ => rfl) fun f cdv A outer s H hr rm =>
  (xs_cons (xs_if (xt_w (xw_or (xt_not (xt_of (xe_isi rfl fr.f_isinstance rfl fr.f_tuple (by decide +kernel) (w_var 0)))) (xw_or (xt_ne rm (xe_len rfl fr.f_len (xa_cons (w_var 0) xa_nil)) xe_int) (xw_or (xt_not (xt_of (w_call C_is_rising_start hr rm (xa_cons (xe_item (w_var 0) xe_int) xa_nil)))) (xw_or1 (xt_not (xt_of (w_call C_is_line_told hr rm (xa_cons (xe_item (w_var 0) xe_int) xa_nil))))))))) (xs_one (xs_ret xe_bl)) xs_nil)
  (xs_one (xs_ret (xe_and (w_call C_is_whole hr rm (xa_cons (xe_item (w_var 0) xe_int) xa_nil)) (xe_and1 (xe_in rm (xe_item (w_var 0) xe_int) (xe_tup (xa_cons xe_int (xa_cons (xe_neg xe_int) xa_nil)))))))))
theorem sc_are_factors : FnScope ["value", "early", "late", "factor"] ["value"] (defScope s_are_factors) := ⟨rfl, rfl, rfl, by decide +kernel, rfl, by decide +kernel, by decide +kernel⟩
theorem ok_are_factors (fr : Fre P K mg) (F : Fu K mg "are_factors" s_are_factors) (C_is_factor : Cal P w K mg base 4 "is_factor" s_is_factor ["value"] m_is_factor) : Cal P w K mg base 5 "are_factors" s_are_factors ["value"] m_are_factors :=
  cal_of (k := 4) (N := ["value", "early", "late", "factor"]) (b := b_are_factors) F sc_are_factors (fun _ _ _ _ _ _ us hl => match us, hl with | [_], _ => rfl) fun f cdv A outer s H hr rm =>
  (xs_cons (xs_if (xt_w (xw_or (xt_not (xt_of (xe_isi rfl fr.f_isinstance rfl fr.f_list (by decide +kernel) (w_var 0)))) (xw_or1 (xt_not (xt_of (xe_all rm rfl fr.f_all (xa_cons (xe_comp (own := [("factor", 3)]) rfl sc_are_factors.nd (xi_seq (w_var 0)) (blkOk_by rfl) (fun _ _ _ _ _ => (w_gn 3 sc_are_factors.nd)) (fun _ _ _ _ _ => xts_nil) (fun _ _ _ _ _ => (w_call C_is_factor hr rm.blk (xa_cons (w_var 3) xa_nil)))) xa_nil))))))) (xs_one (xs_ret xe_bl)) xs_nil)
  (xs_one (xs_ret (xe_all rm rfl fr.f_all (xa_cons (xe_comp (own := [("early", 1), ("late", 2)]) rfl sc_are_factors.nd (xi_zip rfl fr.f_zip (xa_cons (w_var 0) (xa_cons (xe_slice (w_var 0) (xo_some xe_int) xo_none) xa_nil))) (blkOk_by rfl) (fun _ _ _ _ _ => (xg_tup rfl (xgs_cons (w_gn 1 sc_are_factors.nd) (xgs_cons (w_gn 2 sc_are_factors.nd) xgs_nil)))) (fun _ _ _ _ _ => xts_nil) (fun _ _ _ _ _ => (xe_le rm.blk (w_var 1) (w_var 2)))) xa_nil)))))
theorem sc_rising_parts : FnScope ["x", "m", "at", "above", "below"] ["x", "m"] (defScope s_rising_parts) := ⟨rfl, rfl, rfl, by decide +kernel, rfl, by decide +kernel, by decide +kernel⟩
theorem ok_rising_parts (fr : Fre P K mg) (F : Fu K mg "rising_parts" s_rising_parts)  : Cal P w K mg base 1 "rising_parts" s_rising_parts ["x", "m"] m_rising_parts :=
  cal_of (k := 0) (N := ["x", "m", "at", "above", "below"]) (b := b_rising_parts) F sc_rising_parts (fun _ _ _ _ _ _ us hl => match us, hl with | [_, _], _ => rfl) fun f cdv A outer s H hr rm =>
  (xs_cons (xs_asg (ws := [3, 4]) (xe_tup (xa_cons xe_int (xa_cons xe_int xa_nil))) (xg_tup rfl (xgs_cons (w_gn 3 sc_rising_parts.nd) (xgs_cons (w_gn 4 sc_rising_parts.nd) xgs_nil))))
  (xs_cons (w_for [2] (xi_range1 rfl fr.f_range (xa_cons (xe_abs rfl fr.f_abs (xa_cons (w_var 1) xa_nil)) xa_nil)) (w_gn 2 sc_rising_parts.nd) (xs_one (xs_if (xt_ge rm (w_var 1) xe_int) (xs_one (xs_parO (i := 3) (j := 4) rfl sc_rising_parts.nd (xao_dat (xe_mul (w_var 3) (xe_add (xe_item (w_var 0) xe_int) (xe_mul (w_var 2) (xe_item (w_var 0) xe_int)))) (xao_dat (xe_mul (w_var 4) (xe_item (w_var 0) xe_int)) xao_nil)))) (xs_one (xs_parO (i := 3) (j := 4) rfl sc_rising_parts.nd (xao_dat (xe_mul (w_var 3) (xe_item (w_var 0) xe_int)) (xao_dat (xe_mul (w_var 4) (xe_sub (xe_item (w_var 0) xe_int) (xe_mul (xe_add (w_var 2) xe_int) (xe_item (w_var 0) xe_int)))) xao_nil)))))))
  (xs_one (xs_ret (xe_tup (xa_cons (w_var 3) (xa_cons (w_var 4) xa_nil)))))))
theorem sc_line_worth : FnScope ["line", "n", "k"] ["line", "n", "k"] (defScope s_line_worth) := ⟨rfl, rfl, rfl, by decide +kernel, rfl, by decide +kernel, by decide +kernel⟩
theorem ok_line_worth (fr : Fre P K mg) (F : Fu K mg "line_worth" s_line_worth)  : Cal P w K mg base 1 "line_worth" s_line_worth ["line", "n", "k"] m_line_worth :=
  cal_of (k := 0) (N := ["line", "n", "k"]) (b := b_line_worth) F sc_line_worth (fun _ _ _ _ _ _ us hl => match us, hl with | [_, _, _], _ => rfl) fun f cdv A outer s H hr rm =>
  (xs_one (xs_ret (xe_add (xe_add (xe_mul (xe_item (w_var 0) xe_int) (w_var 1)) (xe_mul (xe_item (w_var 0) xe_int) (w_var 2))) (xe_item (w_var 0) xe_int))))
theorem sc_whole_lines : FnScope ["factors", "e", "x", "line", "sign"] ["factors", "e"] (defScope s_whole_lines) := ⟨rfl, rfl, rfl, by decide +kernel, rfl, by decide +kernel, by decide +kernel⟩
theorem ok_whole_lines (fr : Fre P K mg) (F : Fu K mg "whole_lines" s_whole_lines)  : Cal P w K mg base 1 "whole_lines" s_whole_lines ["factors", "e"] m_whole_lines :=
  cal_of (k := 0) (N := ["factors", "e", "x", "line", "sign"]) (b := b_whole_lines) F sc_whole_lines (fun _ _ _ _ _ _ us hl => match us, hl with | [_, _], _ => rfl) fun f cdv A outer s H hr rm =>
  (xs_one (xs_ret (xe_comp (own := [("x", 2), ("line", 3), ("sign", 4)]) rfl sc_whole_lines.nd (xi_seq (w_var 0)) (blkOk_by rfl) (fun _ _ _ _ _ => (xg_tup rfl (xgs_cons (w_gn 2 sc_whole_lines.nd) (xgs_cons (w_gn 3 sc_whole_lines.nd) (xgs_cons (w_gn 4 sc_whole_lines.nd) xgs_nil))))) (fun _ _ _ _ _ => (xts_one (xt_w (xw_and (xt_eq rm.blk (w_var 2) (w_gval fr.g_ONE)) (xw_and1 (xt_eq rm.blk (w_var 4) (w_var 1))))))) (fun _ _ _ _ _ => (w_var 3)))))
theorem sc_span_where : FnScope ["lines", "least", "most", "slope", "number", "last"] ["lines"] (defScope s_span_where) := ⟨rfl, rfl, rfl, by decide +kernel, rfl, by decide +kernel, by decide +kernel⟩
theorem ok_span_where (fr : Fre P K mg) (F : Fu K mg "span_where" s_span_where)  : Cal P w K mg base 1 "span_where" s_span_where ["lines"] m_span_where :=
  cal_of (k := 0) (N := ["lines", "least", "most", "slope", "number", "last"]) (b := b_span_where) F sc_span_where (fun _ _ _ _ _ _ us hl => match us, hl with | [_], _ => rfl) fun f cdv A outer s H hr rm =>
  (xs_cons (xs_asg (ws := [1, 2]) (xe_tup (xa_cons xe_int (xa_cons xe_non xa_nil))) (xg_tup rfl (xgs_cons (w_gn 1 sc_span_where.nd) (xgs_cons (w_gn 2 sc_span_where.nd) xgs_nil))))
  (xs_cons (w_for [3, 4] (xi_seq (w_var 0)) (xg_tup rfl (xgs_cons (w_gn 3 sc_span_where.nd) (xgs_cons (w_gn 4 sc_span_where.nd) xgs_nil))) (xs_cons (xs_if (xt_w (xw_and (xt_eq rm (w_var 3) xe_int) (xw_and1 (xt_lt rm (w_var 4) xe_int)))) (xs_one (xs_ret xe_non)) xs_nil)
  (xs_cons (xs_if (xt_gt rm (w_var 3) xe_int) (xs_one (w_set 1 sc_span_where.nd (xe_max2 rm rfl fr.f_max (xa_cons (w_var 1) (xa_cons (xe_sub xe_int (xe_div (w_var 4) (w_var 3))) xa_nil))))) xs_nil)
  (xs_one (xs_if (xt_lt rm (w_var 3) xe_int) (xs_cons (w_set 5 sc_span_where.nd (xe_div (w_var 4) (xe_sub xe_int (w_var 3))))
  (xs_one (w_set 2 sc_span_where.nd (xe_if (xt_is (w_var 2) xe_non) (w_var 5) (xe_min2 rm rfl fr.f_min (xa_cons (w_var 2) (xa_cons (w_var 5) xa_nil))))))) xs_nil)))))
  (xs_one (xs_ret (xe_if (xt_w (xw_or (xt_is (w_var 2) xe_non) (xw_or1 (xt_le rm (w_var 1) (w_var 2))))) (xe_tup (xa_cons (w_var 1) (xa_cons (w_var 2) xa_nil))) xe_non)))))
theorem sc_is_cut : FnScope ["factors", "n", "k", "line"] ["factors", "n", "k"] (defScope s_is_cut) := ⟨rfl, rfl, rfl, by decide +kernel, rfl, by decide +kernel, by decide +kernel⟩
theorem ok_is_cut (fr : Fre P K mg) (F : Fu K mg "is_cut" s_is_cut) (C_whole_lines : Cal P w K mg base 1 "whole_lines" s_whole_lines ["factors", "e"] m_whole_lines) (C_line_worth : Cal P w K mg base 1 "line_worth" s_line_worth ["line", "n", "k"] m_line_worth) : Cal P w K mg base 2 "is_cut" s_is_cut ["factors", "n", "k"] m_is_cut :=
  cal_of (k := 1) (N := ["factors", "n", "k", "line"]) (b := b_is_cut) F sc_is_cut (fun _ _ _ _ _ _ us hl => match us, hl with | [_, _, _], _ => rfl) fun f cdv A outer s H hr rm =>
  (xs_one (xs_ret (xe_any rm rfl fr.f_any (xa_cons (xe_comp (own := [("line", 3)]) rfl sc_is_cut.nd (xi_seq (w_call C_whole_lines hr rm (xa_cons (w_var 0) (xa_cons (xe_neg xe_int) xa_nil)))) (blkOk_by rfl) (fun _ _ _ _ _ => (w_gn 3 sc_is_cut.nd)) (fun _ _ _ _ _ => xts_nil) (fun _ _ _ _ _ => (xe_lt rm.blk (w_call C_line_worth hr rm.blk (xa_cons (w_var 3) (xa_cons (w_var 1) (xa_cons (w_var 2) xa_nil)))) xe_int))) xa_nil))))
theorem sc_factors_worth : FnScope ["factors", "n", "k", "above", "below", "x", "line", "e", "up", "down"] ["factors", "n", "k"] (defScope s_factors_worth) := ⟨rfl, rfl, rfl, by decide +kernel, rfl, by decide +kernel, by decide +kernel⟩
theorem ok_factors_worth (fr : Fre P K mg) (F : Fu K mg "factors_worth" s_factors_worth) (C_rising_parts : Cal P w K mg base 1 "rising_parts" s_rising_parts ["x", "m"] m_rising_parts) (C_line_worth : Cal P w K mg base 1 "line_worth" s_line_worth ["line", "n", "k"] m_line_worth) : Cal P w K mg base 2 "factors_worth" s_factors_worth ["factors", "n", "k"] m_factors_worth :=
  cal_of (k := 1) (N := ["factors", "n", "k", "above", "below", "x", "line", "e", "up", "down"]) (b := b_factors_worth) F sc_factors_worth (fun _ _ _ _ _ _ us hl => match us, hl with | [_, _, _], _ => rfl) fun f cdv A outer s H hr rm =>
  (xs_cons (xs_asg (ws := [3, 4]) (xe_tup (xa_cons xe_int (xa_cons xe_int xa_nil))) (xg_tup rfl (xgs_cons (w_gn 3 sc_factors_worth.nd) (xgs_cons (w_gn 4 sc_factors_worth.nd) xgs_nil))))
  (xs_cons (w_for [5, 6, 7] (xi_seq (w_var 0)) (xg_tup rfl (xgs_cons (w_gn 5 sc_factors_worth.nd) (xgs_cons (w_gn 6 sc_factors_worth.nd) (xgs_cons (w_gn 7 sc_factors_worth.nd) xgs_nil)))) (xs_cons (xs_asg (ws := [8, 9]) (w_call C_rising_parts hr rm (xa_cons (w_var 5) (xa_cons (w_call C_line_worth hr rm (xa_cons (w_var 6) (xa_cons (w_var 1) (xa_cons (w_var 2) xa_nil)))) xa_nil))) (xg_tup rfl (xgs_cons (w_gn 8 sc_factors_worth.nd) (xgs_cons (w_gn 9 sc_factors_worth.nd) xgs_nil))))
  (xs_one (xs_asg (ws := [3, 4]) (xe_if (xt_eq rm (w_var 7) xe_int) (xe_tup (xa_cons (xe_mul (w_var 3) (w_var 8)) (xa_cons (xe_mul (w_var 4) (w_var 9)) xa_nil))) (xe_tup (xa_cons (xe_mul (w_var 3) (w_var 9)) (xa_cons (xe_mul (w_var 4) (w_var 8)) xa_nil)))) (xg_tup rfl (xgs_cons (w_gn 3 sc_factors_worth.nd) (xgs_cons (w_gn 4 sc_factors_worth.nd) xgs_nil)))))))
  (xs_one (xs_ret (xe_tup (xa_cons (w_var 3) (xa_cons (w_var 4) xa_nil)))))))
theorem sc_power_parts : FnScope ["fraction", "m", "above", "below"] ["fraction", "m"] (defScope s_power_parts) := ⟨rfl, rfl, rfl, by decide +kernel, rfl, by decide +kernel, by decide +kernel⟩
theorem ok_power_parts (fr : Fre P K mg) (F : Fu K mg "power_parts" s_power_parts) (C_power_in : Cal P w K mg base 1 "power_in" s_power_in ["number", "times"] m_power_in) : Cal P w K mg base 2 "power_parts" s_power_parts ["fraction", "m"] m_power_parts :=
  cal_of (k := 1) (N := ["fraction", "m", "above", "below"]) (b := b_power_parts) F sc_power_parts (fun _ _ _ _ _ _ us hl => match us, hl with | [_, _], _ => rfl) fun f cdv A outer s H hr rm =>
  (xs_cons (xs_asg (ws := [2, 3]) (xe_if (xt_ge rm (w_var 1) xe_int) (w_var 0) (xe_tup (xa_cons (xe_item (w_var 0) xe_int) (xa_cons (xe_item (w_var 0) xe_int) xa_nil)))) (xg_tup rfl (xgs_cons (w_gn 2 sc_power_parts.nd) (xgs_cons (w_gn 3 sc_power_parts.nd) xgs_nil))))
  (xs_one (xs_ret (xe_tup (xa_cons (w_call C_power_in hr rm (xa_cons (w_var 2) (xa_cons (xe_abs rfl fr.f_abs (xa_cons (w_var 1) xa_nil)) xa_nil))) (xa_cons (w_call C_power_in hr rm (xa_cons (w_var 3) (xa_cons (xe_abs rfl fr.f_abs (xa_cons (w_var 1) xa_nil)) xa_nil))) xa_nil))))))
theorem sc_has_double_form : FnScope ["value", "base"] ["value"] (defScope s_has_double_form) := ⟨rfl, rfl, rfl, by decide +kernel, rfl, by decide +kernel, by decide +kernel⟩
theorem ok_has_double_form (fr : Fre P K mg) (F : Fu K mg "has_double_form" s_has_double_form) (C_is_double : Cal P w K mg base 3 "is_double" s_is_double ["value"] m_is_double) (C_are_factors : Cal P w K mg base 5 "are_factors" s_are_factors ["value"] m_are_factors) (C_is_fraction : Cal P w K mg base 2 "is_fraction" s_is_fraction ["value"] m_is_fraction) : Cal P w K mg base 6 "has_double_form" s_has_double_form ["value"] m_has_double_form :=
  cal_of (k := 5) (N := ["value", "base"]) (b := b_has_double_form) F sc_has_double_form (fun _ _ _ _ _ _ us hl => match us, hl with | [_], _ => rfl) fun f cdv A outer s H hr rm =>
  (xs_cons (xs_if (xt_w (xw_or (xt_not (xt_of (xe_isi rfl fr.f_isinstance rfl fr.f_tuple (by decide +kernel) (w_var 0)))) (xw_or (xt_ne rm (xe_len rfl fr.f_len (xa_cons (w_var 0) xa_nil)) xe_int) (xw_or (xt_not (xt_of (xe_isi rfl fr.f_isinstance rfl fr.f_str (by decide +kernel) (xe_item (w_var 0) xe_int)))) (xw_or1 (xt_ne rm (xe_item (w_var 0) xe_int) (w_gstr fr.c_WORD_DOUBLE))))))) (xs_one (xs_ret xe_bl)) xs_nil)
  (xs_cons (xs_if (xt_w (xw_or (xt_not (xt_of (w_call C_is_double hr rm (xa_cons (xe_item (w_var 0) xe_int) xa_nil)))) (xw_or1 (xt_not (xt_of (w_call C_are_factors hr rm (xa_cons (xe_item (w_var 0) xe_int) xa_nil))))))) (xs_one (xs_ret xe_bl)) xs_nil)
  (xs_one (xs_ret (xe_all rm rfl fr.f_all (xa_cons (xe_comp (own := [("base", 1)]) rfl sc_has_double_form.nd (xi_seq (xe_slice (w_var 0) (xo_some xe_int) (xo_some xe_int))) (blkOk_by rfl) (fun _ _ _ _ _ => (w_gn 1 sc_has_double_form.nd)) (fun _ _ _ _ _ => xts_nil) (fun _ _ _ _ _ => (xe_and (w_call C_is_fraction hr rm.blk (xa_cons (w_var 1) xa_nil)) (xe_and1 (xe_ne rm.blk (xe_item (w_var 1) xe_int) xe_int))))) xa_nil))))))
theorem sc_steps_of : FnScope ["lines", "found", "a", "b", "c"] ["lines"] (defScope s_steps_of) := ⟨rfl, rfl, rfl, by decide +kernel, rfl, by decide +kernel, by decide +kernel⟩
theorem ok_steps_of (fr : Fre P K mg) (F : Fu K mg "steps_of" s_steps_of) (C_common_of : Cal P w K mg base 1 "common_of" s_common_of ["one", "other"] m_common_of) : Cal P w K mg base 2 "steps_of" s_steps_of ["lines"] m_steps_of :=
  cal_of (k := 1) (N := ["lines", "found", "a", "b", "c"]) (b := b_steps_of) F sc_steps_of (fun _ _ _ _ _ _ us hl => match us, hl with | [_], _ => rfl) fun f cdv A outer s H hr rm =>
  (xs_cons (w_set 1 sc_steps_of.nd xe_int)
  (xs_cons (w_for [2, 3, 4] (xi_seq (w_var 0)) (xg_tup rfl (xgs_cons (w_gn 2 sc_steps_of.nd) (xgs_cons (w_gn 3 sc_steps_of.nd) (xgs_cons (w_gn 4 sc_steps_of.nd) xgs_nil)))) (xs_one (xs_if (xt_ne rm (w_var 3) xe_int) (xs_one (w_set 1 sc_steps_of.nd (xe_mul (xe_div (w_var 1) (w_call C_common_of hr rm (xa_cons (w_var 1) (xa_cons (w_var 3) xa_nil)))) (xe_abs rfl fr.f_abs (xa_cons (w_var 3) xa_nil))))) xs_nil)))
  (xs_one (xs_ret (w_var 1)))))
theorem sc_by_steps : FnScope ["lines", "step", "rest", "found", "leasts", "mosts", "a", "b", "c", "number", "slope", "low", "least"] ["lines", "step", "rest"] (defScope s_by_steps) := ⟨rfl, rfl, rfl, by decide +kernel, rfl, by decide +kernel, by decide +kernel⟩
theorem ok_by_steps (fr : Fre P K mg) (F : Fu K mg "by_steps" s_by_steps)  : Cal P w K mg base 1 "by_steps" s_by_steps ["lines", "step", "rest"] m_by_steps :=
  cal_of (k := 0) (N := ["lines", "step", "rest", "found", "leasts", "mosts", "a", "b", "c", "number", "slope", "low", "least"]) (b := b_by_steps) F sc_by_steps (fun _ _ _ _ _ _ us hl => match us, hl with | [_, _, _], _ => rfl) fun f cdv A outer s H hr rm =>
  (xs_cons (xs_par3 (i := 3) (j := 4) (l := 5) rfl sc_by_steps.nd (xao_own (xe_lst xa_nil) (xao_own (xe_lst xa_nil) (xao_own (xe_lst xa_nil) xao_nil))))
  (xs_cons (w_for [6, 7, 8] (xi_seq (w_var 0)) (xg_tup rfl (xgs_cons (w_gn 6 sc_by_steps.nd) (xgs_cons (w_gn 7 sc_by_steps.nd) (xgs_cons (w_gn 8 sc_by_steps.nd) xgs_nil)))) (xs_cons (w_set 9 sc_by_steps.nd (xe_add (xe_mul (w_var 6) (w_var 2)) (w_var 8)))
  (xs_one (xs_if (xt_eq rm (w_var 7) xe_int) (xs_one (w_app 3 (xe_tup (xa_cons (xe_mul (w_var 6) (w_var 1)) (xa_cons (w_var 9) xa_nil))))) (xs_one (xs_if (xt_gt rm (w_var 7) xe_int) (xs_one (w_app 4 (xe_tup (xa_cons (xe_sub xe_int (xe_mul (w_var 6) (xe_div (w_var 1) (w_var 7)))) (xa_cons (xe_sub xe_int (xe_div (w_var 9) (w_var 7))) xa_nil))))) (xs_one (w_app 5 (xe_tup (xa_cons (xe_mul (w_var 6) (xe_div (w_var 1) (xe_sub xe_int (w_var 7)))) (xa_cons (xe_div (w_var 9) (xe_sub xe_int (w_var 7))) xa_nil)))))))))))
  (xs_cons (xs_frz (xs_frz (w_for [10, 9] (xi_seq (w_var 5)) (xg_tup rfl (xgs_cons (w_gn 10 sc_by_steps.nd) (xgs_cons (w_gn 9 sc_by_steps.nd) xgs_nil))) (xs_one (w_own 3 sc_by_steps.nd (xe_add (w_var 3) (xe_comp (own := [("low", 11), ("least", 12)]) rfl sc_by_steps.nd (xi_seq (w_var 4)) (blkOk_by rfl) (fun _ _ _ _ _ => (xg_tup rfl (xgs_cons (w_gn 11 sc_by_steps.nd) (xgs_cons (w_gn 12 sc_by_steps.nd) xgs_nil)))) (fun _ _ _ _ _ => xts_nil) (fun _ _ _ _ _ => (xe_tup (xa_cons (xe_sub (w_var 10) (w_var 11)) (xa_cons (xe_sub (w_var 9) (w_var 12)) xa_nil)))))))))))
  (xs_one (xs_ret (w_var 3))))))
theorem sc_last_without : FnScope ["lines", "rest", "step", "found", "span"] ["lines"] (defScope s_last_without) := ⟨rfl, rfl, rfl, by decide +kernel, rfl, by decide +kernel, by decide +kernel⟩
theorem ok_last_without (fr : Fre P K mg) (F : Fu K mg "last_without" s_last_without) (C_steps_of : Cal P w K mg base 2 "steps_of" s_steps_of ["lines"] m_steps_of) (C_span_where : Cal P w K mg base 1 "span_where" s_span_where ["lines"] m_span_where) (C_by_steps : Cal P w K mg base 1 "by_steps" s_by_steps ["lines", "step", "rest"] m_by_steps) : Cal P w K mg base 3 "last_without" s_last_without ["lines"] m_last_without :=
  cal_of (k := 2) (N := ["lines", "rest", "step", "found", "span"]) (b := b_last_without) F sc_last_without (fun _ _ _ _ _ _ us hl => match us, hl with | [_], _ => rfl) fun f cdv A outer s H hr rm =>
  (xs_cons (xs_parO (i := 2) (j := 3) rfl sc_last_without.nd (xao_dat (w_call C_steps_of hr rm (xa_cons (w_var 0) xa_nil)) (xao_dat (xe_neg xe_int) xao_nil)))
  (xs_cons (w_for [1] (xi_range1 rfl fr.f_range (xa_cons (w_var 2) xa_nil)) (w_gn 1 sc_last_without.nd) (xs_cons (w_set 4 sc_last_without.nd (w_call C_span_where hr rm (xa_cons (w_call C_by_steps hr rm (xa_cons (w_var 0) (xa_cons (w_var 2) (xa_cons (w_var 1) xa_nil)))) xa_nil)))
  (xs_cons (xs_if (xt_w (xw_and (xt_isnot (w_var 4) xe_non) (xw_and1 (xt_is (xe_item (w_var 4) xe_int) xe_non)))) (xs_one (xs_ret xe_non)) xs_nil)
  (xs_one (xs_if (xt_isnot (w_var 4) xe_non) (xs_one (w_set 3 sc_last_without.nd (xe_max2 rm rfl fr.f_max (xa_cons (w_var 3) (xa_cons (xe_add (xe_mul (xe_item (w_var 4) xe_int) (w_var 2)) (w_var 1)) xa_nil))))) xs_nil)))))
  (xs_one (xs_ret (w_var 3)))))
theorem sc_last_missing : FnScope ["ups", "downs", "found", "a", "b", "c", "last"] ["ups", "downs"] (defScope s_last_missing) := ⟨rfl, rfl, rfl, by decide +kernel, rfl, by decide +kernel, by decide +kernel⟩
theorem ok_last_missing (fr : Fre P K mg) (F : Fu K mg "last_missing" s_last_missing) (C_last_without : Cal P w K mg base 3 "last_without" s_last_without ["lines"] m_last_without) : Cal P w K mg base 4 "last_missing" s_last_missing ["ups", "downs"] m_last_missing :=
  cal_of (k := 3) (N := ["ups", "downs", "found", "a", "b", "c", "last"]) (b := b_last_missing) F sc_last_missing (fun _ _ _ _ _ _ us hl => match us, hl with | [_, _], _ => rfl) fun f cdv A outer s H hr rm =>
  (xs_cons (w_set 2 sc_last_missing.nd (xe_neg xe_int))
  (xs_cons (w_for [3, 4, 5] (xi_seq (w_var 0)) (xg_tup rfl (xgs_cons (w_gn 3 sc_last_missing.nd) (xgs_cons (w_gn 4 sc_last_missing.nd) (xgs_cons (w_gn 5 sc_last_missing.nd) xgs_nil)))) (xs_cons (w_set 6 sc_last_missing.nd (w_call C_last_without hr rm (xa_cons (xe_add (w_var 1) (xe_lst (xa_cons (xe_tup (xa_cons (xe_sub xe_int (w_var 3)) (xa_cons (xe_sub xe_int (w_var 4)) (xa_cons (xe_sub (xe_sub xe_int (w_var 5)) xe_int) xa_nil)))) xa_nil))) xa_nil)))
  (xs_cons (xs_if (xt_is (w_var 6) xe_non) (xs_one (xs_ret xe_non)) xs_nil)
  (xs_one (w_set 2 sc_last_missing.nd (xe_max2 rm rfl fr.f_max (xa_cons (w_var 2) (xa_cons (w_var 6) xa_nil))))))))
  (xs_one (xs_ret (w_var 2)))))
theorem sc_is_sound_everywhere : FnScope ["factors"] ["factors"] (defScope s_is_sound_everywhere) := ⟨rfl, rfl, rfl, by decide +kernel, rfl, by decide +kernel, by decide +kernel⟩
theorem ok_is_sound_everywhere (fr : Fre P K mg) (F : Fu K mg "is_sound_everywhere" s_is_sound_everywhere) (C_last_missing : Cal P w K mg base 4 "last_missing" s_last_missing ["ups", "downs"] m_last_missing) (C_whole_lines : Cal P w K mg base 1 "whole_lines" s_whole_lines ["factors", "e"] m_whole_lines) : Cal P w K mg base 5 "is_sound_everywhere" s_is_sound_everywhere ["factors"] m_is_sound_everywhere :=
  cal_of (k := 4) (N := ["factors"]) (b := b_is_sound_everywhere) F sc_is_sound_everywhere (fun _ _ _ _ _ _ us hl => match us, hl with | [_], _ => rfl) fun f cdv A outer s H hr rm =>
  (xs_one (xs_ret (xe_eq rm (w_call C_last_missing hr rm (xa_cons (w_call C_whole_lines hr rm (xa_cons (w_var 0) (xa_cons xe_int xa_nil))) (xa_cons (w_call C_whole_lines hr rm (xa_cons (w_var 0) (xa_cons (xe_neg xe_int) xa_nil))) xa_nil))) (xe_neg xe_int))))
theorem sc_check_double_term : FnScope ["double"] ["double"] (defScope s_check_double_term) := ⟨rfl, rfl, rfl, by decide +kernel, rfl, by decide +kernel, by decide +kernel⟩
theorem ok_check_double_term (fr : Fre P K mg) (F : Fu K mg "check_double_term" s_check_double_term) (C_has_double_form : Cal P w K mg base 6 "has_double_form" s_has_double_form ["value"] m_has_double_form) : CalX P w K mg base 7 "check_double_term" s_check_double_term ["double"] m_check_double_term :=
  calX_of (k := 6) (N := ["double"]) (b := b_check_double_term) F sc_check_double_term (fun _ _ _ _ _ _ us hl => match us, hl with | [_], _ => rfl) fun f cdv A outer s H E hr rm hc =>
  (xsx_one (x1_if (xt_not (xt_of (w_call C_has_double_form hr rm (xa_cons (w_var 0) xa_nil)))) (xsx_one (w_raise fr.ra_InvalidSum hr rm (w_var 0))) xsx_nil))
theorem sc_is_there : FnScope ["factors", "n", "k", "line"] ["factors", "n", "k"] (defScope s_is_there) := ⟨rfl, rfl, rfl, by decide +kernel, rfl, by decide +kernel, by decide +kernel⟩
theorem ok_is_there (fr : Fre P K mg) (F : Fu K mg "is_there" s_is_there) (C_whole_lines : Cal P w K mg base 1 "whole_lines" s_whole_lines ["factors", "e"] m_whole_lines) (C_line_worth : Cal P w K mg base 1 "line_worth" s_line_worth ["line", "n", "k"] m_line_worth) : Cal P w K mg base 2 "is_there" s_is_there ["factors", "n", "k"] m_is_there :=
  cal_of (k := 1) (N := ["factors", "n", "k", "line"]) (b := b_is_there) F sc_is_there (fun _ _ _ _ _ _ us hl => match us, hl with | [_, _, _], _ => rfl) fun f cdv A outer s H hr rm =>
  (xs_one (xs_ret (xe_all rm rfl fr.f_all (xa_cons (xe_comp (own := [("line", 3)]) rfl sc_is_there.nd (xi_seq (w_call C_whole_lines hr rm (xa_cons (w_var 0) (xa_cons xe_int xa_nil)))) (blkOk_by rfl) (fun _ _ _ _ _ => (w_gn 3 sc_is_there.nd)) (fun _ _ _ _ _ => xts_nil) (fun _ _ _ _ _ => (xe_ge rm.blk (w_call C_line_worth hr rm.blk (xa_cons (w_var 3) (xa_cons (w_var 1) (xa_cons (w_var 2) xa_nil)))) xe_int))) xa_nil))))
theorem sc_double_value_in : FnScope ["double", "n", "k", "above", "below", "up", "down", "high", "low"] ["double", "n", "k"] (defScope s_double_value_in) := ⟨rfl, rfl, rfl, by decide +kernel, rfl, by decide +kernel, by decide +kernel⟩
theorem ok_double_value_in (fr : Fre P K mg) (F : Fu K mg "double_value_in" s_double_value_in) (C_is_cut : Cal P w K mg base 2 "is_cut" s_is_cut ["factors", "n", "k"] m_is_cut) (C_factors_worth : Cal P w K mg base 2 "factors_worth" s_factors_worth ["factors", "n", "k"] m_factors_worth) (C_power_parts : Cal P w K mg base 2 "power_parts" s_power_parts ["fraction", "m"] m_power_parts) (C_lowest_of : Cal P w K mg base 2 "lowest_of" s_lowest_of ["above", "below"] m_lowest_of) (C_worth_in : Cal P w K mg base 1 "worth_in" s_worth_in ["poly", "number"] m_worth_in) (C_worths_of_parts : Cal P w K mg base 2 "worths_of_parts" s_worths_of_parts ["double", "number"] m_worths_of_parts) : Cal P w K mg base 3 "double_value_in" s_double_value_in ["double", "n", "k"] m_double_value_in :=
  cal_of (k := 2) (N := ["double", "n", "k", "above", "below", "up", "down", "high", "low"]) (b := b_double_value_in) F sc_double_value_in (fun _ _ _ _ _ _ us hl => match us, hl with | [_, _, _], _ => rfl) fun f cdv A outer s H hr rm =>
  (xs_cons (xs_if (xt_w (xw_or (xt_eq rm (xe_item (w_var 0) xe_int) (xe_lst xa_nil)) (xw_or1 (xt_of (w_call C_is_cut hr rm (xa_cons (xe_item (w_var 0) xe_int) (xa_cons (w_var 1) (xa_cons (w_var 2) xa_nil)))))))) (xs_one (xs_ret (xe_tup (xa_cons xe_int (xa_cons xe_int xa_nil))))) xs_nil)
  (xs_cons (xs_asg (ws := [3, 4]) (w_call C_factors_worth hr rm (xa_cons (xe_item (w_var 0) xe_int) (xa_cons (w_var 1) (xa_cons (w_var 2) xa_nil)))) (xg_tup rfl (xgs_cons (w_gn 3 sc_double_value_in.nd) (xgs_cons (w_gn 4 sc_double_value_in.nd) xgs_nil))))
  (xs_cons (xs_asg (ws := [5, 6]) (w_call C_power_parts hr rm (xa_cons (xe_item (w_var 0) xe_int) (xa_cons (w_var 1) xa_nil))) (xg_tup rfl (xgs_cons (w_gn 5 sc_double_value_in.nd) (xgs_cons (w_gn 6 sc_double_value_in.nd) xgs_nil))))
  (xs_cons (xs_asg (ws := [7, 8]) (w_call C_power_parts hr rm (xa_cons (xe_item (w_var 0) xe_int) (xa_cons (w_var 2) xa_nil))) (xg_tup rfl (xgs_cons (w_gn 7 sc_double_value_in.nd) (xgs_cons (w_gn 8 sc_double_value_in.nd) xgs_nil))))
  (xs_one (xs_ret (w_call C_lowest_of hr rm (xa_cons (xe_mul (xe_mul (xe_mul (w_call C_worth_in hr rm (xa_cons (w_call C_worths_of_parts hr rm (xa_cons (xe_item (w_var 0) xe_int) (xa_cons (w_var 1) xa_nil))) (xa_cons (w_var 2) xa_nil))) (w_var 3)) (w_var 5)) (w_var 7)) (xa_cons (xe_mul (xe_mul (w_var 4) (w_var 6)) (w_var 8)) xa_nil)))))))))
theorem sc_double_value : FnScope ["double", "n", "k"] ["double", "n", "k"] (defScope s_double_value) := ⟨rfl, rfl, rfl, by decide +kernel, rfl, by decide +kernel, by decide +kernel⟩
theorem ok_double_value (fr : Fre P K mg) (F : Fu K mg "double_value" s_double_value) (C_check_double_term : CalX P w K mg base 7 "check_double_term" s_check_double_term ["double"] m_check_double_term) (C_check_number : CalX P w K mg base 3 "check_number" s_check_number ["value"] m_check_number) (C_is_whole : Cal P w K mg base 1 "is_whole" s_is_whole ["value"] m_is_whole) (C_is_cut : Cal P w K mg base 2 "is_cut" s_is_cut ["factors", "n", "k"] m_is_cut) (C_is_there : Cal P w K mg base 2 "is_there" s_is_there ["factors", "n", "k"] m_is_there) (C_double_value_in : Cal P w K mg base 3 "double_value_in" s_double_value_in ["double", "n", "k"] m_double_value_in) : Cal P w K mg base 8 "double_value" s_double_value ["double", "n", "k"] m_double_value :=
  cal_of (k := 7) (N := ["double", "n", "k"]) (b := b_double_value) F sc_double_value (fun _ _ _ _ _ _ us hl => match us, hl with | [_, _, _], _ => rfl) fun f cdv A outer s H hr rm =>
  (xs_cons (xs_expr (w_call C_check_double_term.plain hr rm (xa_cons (w_var 0) xa_nil)))
  (xs_cons (xs_expr (w_call C_check_number.plain hr rm (xa_cons (w_var 1) xa_nil)))
  (xs_cons (xs_if (xt_not (xt_of (w_call C_is_whole hr rm (xa_cons (w_var 2) xa_nil)))) (xs_one xs_never) xs_nil)
  (xs_cons (xs_if (xt_w (xw_and (xt_not (xt_of (w_call C_is_cut hr rm (xa_cons (xe_item (w_var 0) xe_int) (xa_cons (w_var 1) (xa_cons (w_var 2) xa_nil)))))) (xw_and1 (xt_not (xt_of (w_call C_is_there hr rm (xa_cons (xe_item (w_var 0) xe_int) (xa_cons (w_var 1) (xa_cons (w_var 2) xa_nil))))))))) (xs_one (xs_ret xe_non)) xs_nil)
  (xs_one (xs_ret (w_call C_double_value_in hr rm (xa_cons (w_var 0) (xa_cons (w_var 1) (xa_cons (w_var 2) xa_nil))))))))))
theorem sc_is_sound : FnScope ["double"] ["double"] (defScope s_is_sound) := ⟨rfl, rfl, rfl, by decide +kernel, rfl, by decide +kernel, by decide +kernel⟩
theorem ok_is_sound (fr : Fre P K mg) (F : Fu K mg "is_sound" s_is_sound) (C_check_double_term : CalX P w K mg base 7 "check_double_term" s_check_double_term ["double"] m_check_double_term) (C_is_sound_everywhere : Cal P w K mg base 5 "is_sound_everywhere" s_is_sound_everywhere ["factors"] m_is_sound_everywhere) : CalX P w K mg base 8 "is_sound" s_is_sound ["double"] m_is_sound :=
  calX_of (k := 7) (N := ["double"]) (b := b_is_sound) F sc_is_sound (fun _ _ _ _ _ _ us hl => match us, hl with | [_], _ => rfl) fun f cdv A outer s H E hr rm hc =>
  (xsx_sq (x1_expr (wr_call C_check_double_term hr rm (xa_cons (w_var 0) xa_nil)))
  (xsx_tail (xs_one (xs_ret (w_call C_is_sound_everywhere hr rm (xa_cons (xe_item (w_var 0) xe_int) xa_nil))))))
theorem sc_is_bounded_in : FnScope ["double", "downs", "a", "b", "c"] ["double"] (defScope s_is_bounded_in) := ⟨rfl, rfl, rfl, by decide +kernel, rfl, by decide +kernel, by decide +kernel⟩
theorem ok_is_bounded_in (fr : Fre P K mg) (F : Fu K mg "is_bounded_in" s_is_bounded_in) (C_whole_lines : Cal P w K mg base 1 "whole_lines" s_whole_lines ["factors", "e"] m_whole_lines) : Cal P w K mg base 2 "is_bounded_in" s_is_bounded_in ["double"] m_is_bounded_in :=
  cal_of (k := 1) (N := ["double", "downs", "a", "b", "c"]) (b := b_is_bounded_in) F sc_is_bounded_in (fun _ _ _ _ _ _ us hl => match us, hl with | [_], _ => rfl) fun f cdv A outer s H hr rm =>
  (xs_cons (w_set 1 sc_is_bounded_in.nd (w_call C_whole_lines hr rm (xa_cons (xe_item (w_var 0) xe_int) (xa_cons (xe_neg xe_int) xa_nil))))
  (xs_one (xs_ret (xe_and (xe_any rm rfl fr.f_any (xa_cons (xe_comp (own := [("a", 2), ("b", 3), ("c", 4)]) rfl sc_is_bounded_in.nd (xi_seq (w_var 1)) (blkOk_by rfl) (fun _ _ _ _ _ => (xg_tup rfl (xgs_cons (w_gn 2 sc_is_bounded_in.nd) (xgs_cons (w_gn 3 sc_is_bounded_in.nd) (xgs_cons (w_gn 4 sc_is_bounded_in.nd) xgs_nil))))) (fun _ _ _ _ _ => xts_nil) (fun _ _ _ _ _ => (xe_gt rm.blk (w_var 3) xe_int))) xa_nil)) (xe_and1 (xe_any rm rfl fr.f_any (xa_cons (xe_comp (own := [("a", 2), ("b", 3), ("c", 4)]) rfl sc_is_bounded_in.nd (xi_seq (w_var 1)) (blkOk_by rfl) (fun _ _ _ _ _ => (xg_tup rfl (xgs_cons (w_gn 2 sc_is_bounded_in.nd) (xgs_cons (w_gn 3 sc_is_bounded_in.nd) (xgs_cons (w_gn 4 sc_is_bounded_in.nd) xgs_nil))))) (fun _ _ _ _ _ => xts_nil) (fun _ _ _ _ _ => (xe_lt rm.blk (w_var 3) xe_int))) xa_nil)))))))
theorem sc_is_bounded : FnScope ["double"] ["double"] (defScope s_is_bounded) := ⟨rfl, rfl, rfl, by decide +kernel, rfl, by decide +kernel, by decide +kernel⟩
theorem ok_is_bounded (fr : Fre P K mg) (F : Fu K mg "is_bounded" s_is_bounded) (C_check_double_term : CalX P w K mg base 7 "check_double_term" s_check_double_term ["double"] m_check_double_term) (C_is_bounded_in : Cal P w K mg base 2 "is_bounded_in" s_is_bounded_in ["double"] m_is_bounded_in) : CalX P w K mg base 8 "is_bounded" s_is_bounded ["double"] m_is_bounded :=
  calX_of (k := 7) (N := ["double"]) (b := b_is_bounded) F sc_is_bounded (fun _ _ _ _ _ _ us hl => match us, hl with | [_], _ => rfl) fun f cdv A outer s H E hr rm hc =>
  (xsx_sq (x1_expr (wr_call C_check_double_term hr rm (xa_cons (w_var 0) xa_nil)))
  (xsx_tail (xs_one (xs_ret (w_call C_is_bounded_in hr rm (xa_cons (w_var 0) xa_nil))))))
theorem sc_span_of_k : FnScope ["double", "n", "leasts", "mosts", "a", "b", "c", "number"] ["double", "n"] (defScope s_span_of_k) := ⟨rfl, rfl, rfl, by decide +kernel, rfl, by decide +kernel, by decide +kernel⟩
theorem ok_span_of_k (fr : Fre P K mg) (F : Fu K mg "span_of_k" s_span_of_k) (C_whole_lines : Cal P w K mg base 1 "whole_lines" s_whole_lines ["factors", "e"] m_whole_lines) : Cal P w K mg base 2 "span_of_k" s_span_of_k ["double", "n"] m_span_of_k :=
  cal_of (k := 1) (N := ["double", "n", "leasts", "mosts", "a", "b", "c", "number"]) (b := b_span_of_k) F sc_span_of_k (fun _ _ _ _ _ _ us hl => match us, hl with | [_, _], _ => rfl) fun f cdv A outer s H hr rm =>
  (xs_cons (xs_parO (i := 2) (j := 3) rfl sc_span_of_k.nd (xao_own (xe_lst xa_nil) (xao_own (xe_lst xa_nil) xao_nil)))
  (xs_cons (w_for [4, 5, 6] (xi_seq (w_call C_whole_lines hr rm (xa_cons (xe_item (w_var 0) xe_int) (xa_cons (xe_neg xe_int) xa_nil)))) (xg_tup rfl (xgs_cons (w_gn 4 sc_span_of_k.nd) (xgs_cons (w_gn 5 sc_span_of_k.nd) (xgs_cons (w_gn 6 sc_span_of_k.nd) xgs_nil)))) (xs_cons (w_set 7 sc_span_of_k.nd (xe_add (xe_mul (w_var 4) (w_var 1)) (w_var 6)))
  (xs_cons (xs_if (xt_w (xw_and (xt_eq rm (w_var 5) xe_int) (xw_and1 (xt_lt rm (w_var 7) xe_int)))) (xs_one (xs_ret xe_non)) xs_nil)
  (xs_cons (xs_if (xt_gt rm (w_var 5) xe_int) (xs_one (w_app 2 (xe_sub xe_int (xe_div (w_var 7) (w_var 5))))) xs_nil)
  (xs_one (xs_if (xt_lt rm (w_var 5) xe_int) (xs_one (w_app 3 (xe_div (w_var 7) (xe_sub xe_int (w_var 5))))) xs_nil))))))
  (xs_one (xs_ret (xe_if (xt_le rm (xe_maxL rm rfl fr.f_max (xa_cons (w_var 2) xa_nil)) (xe_minL rm rfl fr.f_min (xa_cons (w_var 3) xa_nil))) (xe_tup (xa_cons (xe_maxL rm rfl fr.f_max (xa_cons (w_var 2) xa_nil)) (xa_cons (xe_minL rm rfl fr.f_min (xa_cons (w_var 3) xa_nil)) xa_nil))) xe_non)))))
theorem sc_bounds_of : FnScope ["double", "n"] ["double", "n"] (defScope s_bounds_of) := ⟨rfl, rfl, rfl, by decide +kernel, rfl, by decide +kernel, by decide +kernel⟩
theorem ok_bounds_of (fr : Fre P K mg) (F : Fu K mg "bounds_of" s_bounds_of) (C_check_double_term : CalX P w K mg base 7 "check_double_term" s_check_double_term ["double"] m_check_double_term) (C_is_bounded_in : Cal P w K mg base 2 "is_bounded_in" s_is_bounded_in ["double"] m_is_bounded_in) (C_check_number : CalX P w K mg base 3 "check_number" s_check_number ["value"] m_check_number) (C_span_of_k : Cal P w K mg base 2 "span_of_k" s_span_of_k ["double", "n"] m_span_of_k) : CalX P w K mg base 8 "bounds_of" s_bounds_of ["double", "n"] m_bounds_of :=
  calX_of (k := 7) (N := ["double", "n"]) (b := b_bounds_of) F sc_bounds_of (fun _ _ _ _ _ _ us hl => match us, hl with | [_, _], _ => rfl) fun f cdv A outer s H E hr rm hc =>
  (xsx_sq (x1_expr (wr_call C_check_double_term hr rm (xa_cons (w_var 0) xa_nil)))
  (xsx_sq (x1_if (xt_not (xt_of (w_call C_is_bounded_in hr rm (xa_cons (w_var 0) xa_nil)))) (xsx_one (w_raise fr.ra_InvalidSum hr rm (w_var 0))) xsx_nil)
  (xsx_sq (x1_expr (wr_call C_check_number hr rm (xa_cons (w_var 1) xa_nil)))
  (xsx_tail (xs_one (xs_ret (w_call C_span_of_k hr rm (xa_cons (w_var 0) (xa_cons (w_var 1) xa_nil)))))))))
theorem sc__law_hash : FnScope ["seed", "index", "mixed"] ["seed", "index"] (defScope s__law_hash) := ⟨rfl, rfl, rfl, by decide +kernel, rfl, by decide +kernel, by decide +kernel⟩
theorem ok__law_hash (fr : Fre P K mg) (F : Fu K mg "_law_hash" s__law_hash)  : Cal P w K mg base 1 "_law_hash" s__law_hash ["seed", "index"] m__law_hash :=
  cal_of (k := 0) (N := ["seed", "index", "mixed"]) (b := b__law_hash) F sc__law_hash (fun _ _ _ _ _ _ us hl => match us, hl with | [_, _], _ => rfl) fun f cdv A outer s H hr rm =>
  (xs_cons (w_set 2 sc__law_hash.nd (xe_mod (xe_int1 rfl fr.f_int (xa_cons (xe_add (xe_add (xe_add (xe_mul (w_var 0) xe_int) (xe_mul (xe_mul xe_int (w_var 1)) (w_var 1))) (xe_mul xe_int (w_var 1))) xe_int) xa_nil)) xe_int))
  (xs_cons (w_set 2 sc__law_hash.nd (xe_mod (xe_int1 rfl fr.f_int (xa_cons (xe_add (xe_add (xe_mul (w_var 2) (w_var 2)) (xe_mul xe_int (w_var 1))) xe_int) xa_nil)) xe_int))
  (xs_one (xs_ret (xe_mod (xe_int1 rfl fr.f_int (xa_cons (xe_mul (w_var 2) xe_int) xa_nil)) xe_int)))))
theorem sc__law_cell : FnScope ["script", "index"] ["script", "index"] (defScope s__law_cell) := ⟨rfl, rfl, rfl, by decide +kernel, rfl, by decide +kernel, by decide +kernel⟩
theorem ok__law_cell (fr : Fre P K mg) (F : Fu K mg "_law_cell" s__law_cell)  : Cal P w K mg base 1 "_law_cell" s__law_cell ["script", "index"] m__law_cell :=
  cal_of (k := 0) (N := ["script", "index"]) (b := b__law_cell) F sc__law_cell (fun _ _ _ _ _ _ us hl => match us, hl with | [_, _], _ => rfl) fun f cdv A outer s H hr rm =>
  (xs_cons (xs_if (xt_lt rm (w_var 1) (xe_len rfl fr.f_len (xa_cons (w_var 0) xa_nil))) (xs_one (xs_ret (xe_item (w_var 0) (w_var 1)))) xs_nil)
  (xs_one (xs_ret (xe_mod (xe_sum rm rfl fr.f_sum (xa_cons (xe_slice (w_var 0) xo_none (xo_some xe_int)) xa_nil)) xe_int))))
theorem sc__law_random : FnScope ["generator", "bound", "drawn", "turn"] ["generator", "bound"] (defScope s__law_random) := ⟨rfl, rfl, rfl, by decide +kernel, rfl, by decide +kernel, by decide +kernel⟩
theorem ok__law_random (fr : Fre P K mg) (F : Fu K mg "_law_random" s__law_random) (C__law_hash : Cal P w K mg base 1 "_law_hash" s__law_hash ["seed", "index"] m__law_hash) : Cal P w K mg base 2 "_law_random" s__law_random ["generator", "bound"] m__law_random :=
  cal_of (k := 1) (N := ["generator", "bound", "drawn", "turn"]) (b := b__law_random) F sc__law_random (fun _ _ _ _ _ _ us hl => match us, hl with | [_, _], _ => rfl) fun f cdv A outer s H hr rm =>
  (xs_cons (xs_if (xt_gt rm (xe_item (w_var 0) xe_int) xe_int) (xs_cons (w_set 2 sc__law_random.nd (xe_mod (xe_int1 rfl fr.f_int (xa_cons (xe_item (w_var 0) xe_int) xa_nil)) (w_var 1)))
  (xs_cons (w_put 0 xe_int (xe_div (xe_item (w_var 0) xe_int) (w_var 1)))
  (xs_one (xs_ret (w_var 2))))) xs_nil)
  (xs_cons (w_set 2 sc__law_random.nd xe_int)
  (xs_cons (w_for [3] (xi_range1 rfl fr.f_range (xa_cons (xe_add xe_int (xe_div (xe_bits (w_var 1)) xe_int)) xa_nil)) (w_gn 3 sc__law_random.nd) (xs_cons (w_put 0 xe_int (xe_add (xe_item (w_var 0) xe_int) xe_int))
  (xs_one (w_set 2 sc__law_random.nd (xe_add (xe_mul (w_var 2) xe_int) (w_call C__law_hash hr rm (xa_cons (xe_item (w_var 0) xe_int) (xa_cons (xe_item (w_var 0) xe_int) xa_nil))))))))
  (xs_one (xs_ret (xe_mod (xe_int1 rfl fr.f_int (xa_cons (w_var 2) xa_nil)) (w_var 1)))))))
theorem sc__law_generator : FnScope ["script", "index", "seed"] ["script", "index"] (defScope s__law_generator) := ⟨rfl, rfl, rfl, by decide +kernel, rfl, by decide +kernel, by decide +kernel⟩
theorem ok__law_generator (fr : Fre P K mg) (F : Fu K mg "_law_generator" s__law_generator) (C__law_cell : Cal P w K mg base 1 "_law_cell" s__law_cell ["script", "index"] m__law_cell) : Cal P w K mg base 2 "_law_generator" s__law_generator ["script", "index"] m__law_generator :=
  cal_of (k := 1) (N := ["script", "index", "seed"]) (b := b__law_generator) F sc__law_generator (fun _ _ _ _ _ _ us hl => match us, hl with | [_, _], _ => rfl) fun f cdv A outer s H hr rm =>
  (xs_cons (w_set 2 sc__law_generator.nd (w_call C__law_cell hr rm (xa_cons (w_var 0) (xa_cons (w_var 1) xa_nil))))
  (xs_one (xs_ret (xe_lst (xa_cons (xe_mod (xe_int1 rfl fr.f_int (xa_cons (xe_max2 rm rfl fr.f_max (xa_cons (xe_sub (w_var 2) (xe_pow xe_int xe_int)) (xa_cons xe_int xa_nil))) xa_nil)) (xe_pow (xe_pow xe_int xe_int) xe_int)) (xa_cons (xe_mod (xe_int1 rfl fr.f_int (xa_cons (w_var 2) xa_nil)) xe_int) (xa_cons (xe_mul xe_int (w_var 1)) xa_nil)))))))
theorem sc__law_pick : FnScope ["generator", "some"] ["generator", "some"] (defScope s__law_pick) := ⟨rfl, rfl, rfl, by decide +kernel, rfl, by decide +kernel, by decide +kernel⟩
theorem ok__law_pick (fr : Fre P K mg) (F : Fu K mg "_law_pick" s__law_pick) (C__law_random : Cal P w K mg base 2 "_law_random" s__law_random ["generator", "bound"] m__law_random) : Cal P w K mg base 3 "_law_pick" s__law_pick ["generator", "some"] m__law_pick :=
  cal_of (k := 2) (N := ["generator", "some"]) (b := b__law_pick) F sc__law_pick (fun _ _ _ _ _ _ us hl => match us, hl with | [_, _], _ => rfl) fun f cdv A outer s H hr rm =>
  (xs_one (xs_ret (xe_item (w_var 1) (w_call C__law_random hr rm (xa_cons (w_var 0) (xa_cons (xe_len rfl fr.f_len (xa_cons (w_var 1) xa_nil)) xa_nil))))))
theorem sc__law_cut : FnScope ["poly", "found", "turn"] ["poly"] (defScope s__law_cut) := ⟨rfl, rfl, rfl, by decide +kernel, rfl, by decide +kernel, by decide +kernel⟩
theorem ok__law_cut (fr : Fre P K mg) (F : Fu K mg "_law_cut" s__law_cut)  : Cal P w K mg base 1 "_law_cut" s__law_cut ["poly"] m__law_cut :=
  cal_of (k := 0) (N := ["poly", "found", "turn"]) (b := b__law_cut) F sc__law_cut (fun _ _ _ _ _ _ us hl => match us, hl with | [_], _ => rfl) fun f cdv A outer s H hr rm =>
  (xs_cons (w_set 1 sc__law_cut.nd (xe_list1 rm rfl fr.f_list (xa_cons (w_var 0) xa_nil)))
  (xs_cons (w_for [2] (xi_range1 rfl fr.f_range (xa_cons (xe_len rfl fr.f_len (xa_cons (w_var 0) xa_nil)) xa_nil)) (w_gn 2 sc__law_cut.nd) (xs_one (w_set 1 sc__law_cut.nd (xe_if (xt_w (xw_and (xt_ne rm (w_var 1) (xe_lst xa_nil)) (xw_and1 (xt_eq rm (xe_item (w_var 1) (xe_neg xe_int)) xe_int)))) (xe_slice (w_var 1) xo_none (xo_some (xe_neg xe_int))) (w_var 1)))))
  (xs_one (xs_ret (w_var 1)))))
theorem sc__law_lines : FnScope ["factors", "e", "x", "line", "sign"] ["factors", "e"] (defScope s__law_lines) := ⟨rfl, rfl, rfl, by decide +kernel, rfl, by decide +kernel, by decide +kernel⟩
theorem ok__law_lines (fr : Fre P K mg) (F : Fu K mg "_law_lines" s__law_lines)  : Cal P w K mg base 1 "_law_lines" s__law_lines ["factors", "e"] m__law_lines :=
  cal_of (k := 0) (N := ["factors", "e", "x", "line", "sign"]) (b := b__law_lines) F sc__law_lines (fun _ _ _ _ _ _ us hl => match us, hl with | [_, _], _ => rfl) fun f cdv A outer s H hr rm =>
  (xs_one (xs_ret (xe_comp (own := [("x", 2), ("line", 3), ("sign", 4)]) rfl sc__law_lines.nd (xi_seq (w_var 0)) (blkOk_by rfl) (fun _ _ _ _ _ => (xg_tup rfl (xgs_cons (w_gn 2 sc__law_lines.nd) (xgs_cons (w_gn 3 sc__law_lines.nd) (xgs_cons (w_gn 4 sc__law_lines.nd) xgs_nil))))) (fun _ _ _ _ _ => (xts_one (xt_w (xw_and (xt_eq rm.blk (w_var 2) (xe_tup (xa_cons xe_int (xa_cons xe_int xa_nil)))) (xw_and1 (xt_eq rm.blk (w_var 4) (w_var 1))))))) (fun _ _ _ _ _ => (w_var 3)))))
theorem sc__law_start : FnScope ["generator"] ["generator"] (defScope s__law_start) := ⟨rfl, rfl, rfl, by decide +kernel, rfl, by decide +kernel, by decide +kernel⟩
theorem ok__law_start (fr : Fre P K mg) (F : Fu K mg "_law_start" s__law_start) (C__law_pick : Cal P w K mg base 3 "_law_pick" s__law_pick ["generator", "some"] m__law_pick) : Cal P w K mg base 4 "_law_start" s__law_start ["generator"] m__law_start :=
  cal_of (k := 3) (N := ["generator"]) (b := b__law_start) F sc__law_start (fun _ _ _ _ _ _ us hl => match us, hl with | [_], _ => rfl) fun f cdv A outer s H hr rm =>
  (xs_one (xs_ret (w_call C__law_pick hr rm (xa_cons (w_var 0) (xa_cons (xe_lst (xa_cons (xe_tup (xa_cons xe_int (xa_cons xe_int xa_nil))) (xa_cons (xe_tup (xa_cons xe_int (xa_cons xe_int xa_nil))) (xa_cons (xe_tup (xa_cons xe_int (xa_cons xe_int xa_nil))) (xa_cons (xe_tup (xa_cons xe_int (xa_cons xe_int xa_nil))) (xa_cons (xe_tup (xa_cons xe_int (xa_cons xe_int xa_nil))) (xa_cons (xe_tup (xa_cons xe_int (xa_cons xe_int xa_nil))) (xa_cons (xe_tup (xa_cons xe_int (xa_cons xe_int xa_nil))) xa_nil)))))))) xa_nil)))))
theorem sc__law_base : FnScope ["generator"] ["generator"] (defScope s__law_base) := ⟨rfl, rfl, rfl, by decide +kernel, rfl, by decide +kernel, by decide +kernel⟩
theorem ok__law_base (fr : Fre P K mg) (F : Fu K mg "_law_base" s__law_base) (C__law_pick : Cal P w K mg base 3 "_law_pick" s__law_pick ["generator", "some"] m__law_pick) : Cal P w K mg base 4 "_law_base" s__law_base ["generator"] m__law_base :=
  cal_of (k := 3) (N := ["generator"]) (b := b__law_base) F sc__law_base (fun _ _ _ _ _ _ us hl => match us, hl with | [_], _ => rfl) fun f cdv A outer s H hr rm =>
  (xs_one (xs_ret (w_call C__law_pick hr rm (xa_cons (w_var 0) (xa_cons (xe_lst (xa_cons (xe_tup (xa_cons xe_int (xa_cons xe_int xa_nil))) (xa_cons (xe_tup (xa_cons xe_int (xa_cons xe_int xa_nil))) (xa_cons (xe_tup (xa_cons xe_int (xa_cons xe_int xa_nil))) (xa_cons (xe_tup (xa_cons (xe_sub xe_int xe_int) (xa_cons xe_int xa_nil))) (xa_cons (xe_tup (xa_cons xe_int (xa_cons xe_int xa_nil))) (xa_cons (xe_tup (xa_cons (xe_sub xe_int xe_int) (xa_cons xe_int xa_nil))) xa_nil))))))) xa_nil)))))
theorem sc__law_poly : FnScope ["generator", "degree", "turn"] ["generator", "degree"] (defScope s__law_poly) := ⟨rfl, rfl, rfl, by decide +kernel, rfl, by decide +kernel, by decide +kernel⟩
theorem ok__law_poly (fr : Fre P K mg) (F : Fu K mg "_law_poly" s__law_poly) (C__law_cut : Cal P w K mg base 1 "_law_cut" s__law_cut ["poly"] m__law_cut) (C__law_random : Cal P w K mg base 2 "_law_random" s__law_random ["generator", "bound"] m__law_random) : Cal P w K mg base 3 "_law_poly" s__law_poly ["generator", "degree"] m__law_poly :=
  cal_of (k := 2) (N := ["generator", "degree", "turn"]) (b := b__law_poly) F sc__law_poly (fun _ _ _ _ _ _ us hl => match us, hl with | [_, _], _ => rfl) fun f cdv A outer s H hr rm =>
  (xs_one (xs_ret (w_call C__law_cut hr rm (xa_cons (xe_comp (own := [("turn", 2)]) rfl sc__law_poly.nd (xi_range1 rfl fr.f_range (xa_cons (w_call C__law_random hr rm (xa_cons (w_var 0) (xa_cons (xe_add (w_var 1) xe_int) xa_nil))) xa_nil)) (blkOk_by rfl) (fun _ _ _ _ _ => (w_gn 2 sc__law_poly.nd)) (fun _ _ _ _ _ => xts_nil) (fun _ _ _ _ _ => (xe_sub (w_call C__law_random hr rm.blk (xa_cons (w_var 0) (xa_cons xe_int xa_nil))) xe_int))) xa_nil))))
theorem sc__law_raw_factor : FnScope ["generator", "is_double_v", "line"] ["generator", "is_double_v"] (defScope s__law_raw_factor) := ⟨rfl, rfl, rfl, by decide +kernel, rfl, by decide +kernel, by decide +kernel⟩
theorem ok__law_raw_factor (fr : Fre P K mg) (F : Fu K mg "_law_raw_factor" s__law_raw_factor) (C__law_random : Cal P w K mg base 2 "_law_random" s__law_random ["generator", "bound"] m__law_random) (C__law_pick : Cal P w K mg base 3 "_law_pick" s__law_pick ["generator", "some"] m__law_pick) (C__law_start : Cal P w K mg base 4 "_law_start" s__law_start ["generator"] m__law_start) : Cal P w K mg base 5 "_law_raw_factor" s__law_raw_factor ["generator", "is_double_v"] m__law_raw_factor :=
  cal_of (k := 4) (N := ["generator", "is_double_v", "line"]) (b := b__law_raw_factor) F sc__law_raw_factor (fun _ _ _ _ _ _ us hl => match us, hl with | [_, _], _ => rfl) fun f cdv A outer s H hr rm =>
  (xs_cons (w_set 2 sc__law_raw_factor.nd (xe_tup (xa_cons (xe_sub (w_call C__law_random hr rm (xa_cons (w_var 0) (xa_cons xe_int xa_nil))) xe_int) (xa_cons (xe_mul (xe_sub (w_call C__law_random hr rm (xa_cons (w_var 0) (xa_cons xe_int xa_nil))) xe_int) (w_var 1)) (xa_cons (xe_sub (w_call C__law_random hr rm (xa_cons (w_var 0) (xa_cons xe_int xa_nil))) xe_int) xa_nil)))))
  (xs_one (xs_ret (xe_tup (xa_cons (w_call C__law_start hr rm (xa_cons (w_var 0) xa_nil)) (xa_cons (w_var 2) (xa_cons (w_call C__law_pick hr rm (xa_cons (w_var 0) (xa_cons (xe_lst (xa_cons xe_int (xa_cons (xe_sub xe_int xe_int) xa_nil))) xa_nil))) xa_nil)))))))
theorem sc__law_double_poly : FnScope ["generator", "found", "turn"] ["generator"] (defScope s__law_double_poly) := ⟨rfl, rfl, rfl, by decide +kernel, rfl, by decide +kernel, by decide +kernel⟩
theorem ok__law_double_poly (fr : Fre P K mg) (F : Fu K mg "_law_double_poly" s__law_double_poly) (C__law_random : Cal P w K mg base 2 "_law_random" s__law_random ["generator", "bound"] m__law_random) (C__law_poly : Cal P w K mg base 3 "_law_poly" s__law_poly ["generator", "degree"] m__law_poly) : Cal P w K mg base 4 "_law_double_poly" s__law_double_poly ["generator"] m__law_double_poly :=
  cal_of (k := 3) (N := ["generator", "found", "turn"]) (b := b__law_double_poly) F sc__law_double_poly (fun _ _ _ _ _ _ us hl => match us, hl with | [_], _ => rfl) fun f cdv A outer s H hr rm =>
  (xs_cons (xs_setC (i := 1) (own := [("turn", 2)]) rfl sc__law_double_poly.nd rfl rfl (sw_true rfl rfl rfl rfl) (xi_range1 rfl fr.f_range (xa_cons (xe_add xe_int (w_call C__law_random hr rm (xa_cons (w_var 0) (xa_cons xe_int xa_nil)))) xa_nil)) (blkOk_by rfl) (fun _ _ _ _ _ => (w_gn 2 sc__law_double_poly.nd)) (fun _ _ _ _ _ => xts_nil) (fun _ _ _ _ _ => (w_call C__law_poly hr rm.blk (xa_cons (w_var 0) (xa_cons xe_int xa_nil)))))
  (xs_cons (w_for [2] (xi_range1 rfl fr.f_range (xa_cons (xe_len rfl fr.f_len (xa_cons (w_var 1) xa_nil)) xa_nil)) (w_gn 2 sc__law_double_poly.nd) (xs_one (w_set 1 sc__law_double_poly.nd (xe_if (xt_w (xw_and (xt_ne rm (w_var 1) (xe_lst xa_nil)) (xw_and1 (xt_eq rm (xe_item (w_var 1) (xe_neg xe_int)) (xe_lst xa_nil))))) (xe_slice (w_var 1) xo_none (xo_some (xe_neg xe_int))) (w_var 1)))))
  (xs_one (xs_ret (w_var 1)))))
theorem sc__law_rims : FnScope ["generator", "ends", "more"] ["generator"] (defScope s__law_rims) := ⟨rfl, rfl, rfl, by decide +kernel, rfl, by decide +kernel, by decide +kernel⟩
theorem ok__law_rims (fr : Fre P K mg) (F : Fu K mg "_law_rims" s__law_rims) (C__law_random : Cal P w K mg base 2 "_law_random" s__law_random ["generator", "bound"] m__law_random) (C__law_pick : Cal P w K mg base 3 "_law_pick" s__law_pick ["generator", "some"] m__law_pick) : Cal P w K mg base 4 "_law_rims" s__law_rims ["generator"] m__law_rims :=
  cal_of (k := 3) (N := ["generator", "ends", "more"]) (b := b__law_rims) F sc__law_rims (fun _ _ _ _ _ _ us hl => match us, hl with | [_], _ => rfl) fun f cdv A outer s H hr rm =>
  (xs_cons (w_set 1 sc__law_rims.nd (xe_lst (xa_cons (xe_tup (xa_cons (xe_tup (xa_cons xe_int (xa_cons xe_int xa_nil))) (xa_cons (xe_tup (xa_cons xe_int (xa_cons xe_int (xa_cons xe_int xa_nil)))) (xa_cons (xe_sub xe_int xe_int) xa_nil)))) (xa_cons (xe_tup (xa_cons (xe_tup (xa_cons xe_int (xa_cons xe_int xa_nil))) (xa_cons (xe_tup (xa_cons xe_int (xa_cons (xe_sub xe_int xe_int) (xa_cons xe_int xa_nil)))) (xa_cons (xe_sub xe_int xe_int) xa_nil)))) xa_nil))))
  (xs_cons (w_set 2 sc__law_rims.nd (xe_lst (xa_cons (xe_tup (xa_cons (xe_tup (xa_cons xe_int (xa_cons xe_int xa_nil))) (xa_cons (xe_tup (xa_cons xe_int (xa_cons xe_int (xa_cons (xe_sub (w_call C__law_random hr rm (xa_cons (w_var 0) (xa_cons xe_int xa_nil))) xe_int) xa_nil)))) (xa_cons (xe_sub xe_int xe_int) xa_nil)))) (xa_cons (xe_tup (xa_cons (xe_tup (xa_cons xe_int (xa_cons xe_int xa_nil))) (xa_cons (xe_tup (xa_cons xe_int (xa_cons (xe_sub xe_int xe_int) (xa_cons (w_call C__law_random hr rm (xa_cons (w_var 0) (xa_cons xe_int xa_nil))) xa_nil)))) (xa_cons (xe_sub xe_int xe_int) xa_nil)))) xa_nil))))
  (xs_one (xs_ret (w_call C__law_pick hr rm (xa_cons (w_var 0) (xa_cons (xe_lst (xa_cons (w_var 1) (xa_cons (w_var 1) (xa_cons (w_var 2) (xa_cons (xe_add (w_var 1) (xe_lst (xa_cons (xe_tup (xa_cons (xe_tup (xa_cons xe_int (xa_cons xe_int xa_nil))) (xa_cons (xe_tup (xa_cons xe_int (xa_cons xe_int (xa_cons xe_int xa_nil)))) (xa_cons xe_int xa_nil)))) xa_nil))) (xa_cons (xe_add (xe_add (w_var 1) (w_var 1)) (xe_mul (xe_lst (xa_cons (xe_tup (xa_cons (xe_tup (xa_cons xe_int (xa_cons xe_int xa_nil))) (xa_cons (xe_tup (xa_cons xe_int (xa_cons xe_int (xa_cons xe_int xa_nil)))) (xa_cons xe_int xa_nil)))) xa_nil)) xe_int)) (xa_cons (xe_lst xa_nil) (xa_cons (xe_slice (w_var 2) xo_none (xo_some xe_int)) xa_nil)))))))) xa_nil)))))))
theorem sc__law_raw_double : FnScope ["generator", "factors", "turn"] ["generator"] (defScope s__law_raw_double) := ⟨rfl, rfl, rfl, by decide +kernel, rfl, by decide +kernel, by decide +kernel⟩
theorem ok__law_raw_double (fr : Fre P K mg) (F : Fu K mg "_law_raw_double" s__law_raw_double) (C__law_rims : Cal P w K mg base 4 "_law_rims" s__law_rims ["generator"] m__law_rims) (C__law_random : Cal P w K mg base 2 "_law_random" s__law_random ["generator", "bound"] m__law_random) (C__law_raw_factor : Cal P w K mg base 5 "_law_raw_factor" s__law_raw_factor ["generator", "is_double_v"] m__law_raw_factor) (C__law_base : Cal P w K mg base 4 "_law_base" s__law_base ["generator"] m__law_base) (C__law_double_poly : Cal P w K mg base 4 "_law_double_poly" s__law_double_poly ["generator"] m__law_double_poly) : Cal P w K mg base 6 "_law_raw_double" s__law_raw_double ["generator"] m__law_raw_double :=
  cal_of (k := 5) (N := ["generator", "factors", "turn"]) (b := b__law_raw_double) F sc__law_raw_double (fun _ _ _ _ _ _ us hl => match us, hl with | [_], _ => rfl) fun f cdv A outer s H hr rm =>
  (xs_cons (w_set 1 sc__law_raw_double.nd (xe_add (w_call C__law_rims hr rm (xa_cons (w_var 0) xa_nil)) (xe_comp (own := [("turn", 2)]) rfl sc__law_raw_double.nd (xi_range1 rfl fr.f_range (xa_cons (w_call C__law_random hr rm (xa_cons (w_var 0) (xa_cons xe_int xa_nil))) xa_nil)) (blkOk_by rfl) (fun _ _ _ _ _ => (w_gn 2 sc__law_raw_double.nd)) (fun _ _ _ _ _ => xts_nil) (fun _ _ _ _ _ => (w_call C__law_raw_factor hr rm.blk (xa_cons (w_var 0) (xa_cons xe_int xa_nil)))))))
  (xs_one (xs_ret (xe_tup (xa_cons xe_str (xa_cons (w_call C__law_double_poly hr rm (xa_cons (w_var 0) xa_nil)) (xa_cons (w_call C__law_base hr rm (xa_cons (w_var 0) xa_nil)) (xa_cons (w_call C__law_base hr rm (xa_cons (w_var 0) xa_nil)) (xa_cons (xe_sorted rm rfl fr.f_sorted (xa_cons (w_var 1) xa_nil)) xa_nil)))))))))
theorem sc__law_span : FnScope ["lines", "n", "least", "most", "a", "b", "c", "number"] ["lines", "n"] (defScope s__law_span) := ⟨rfl, rfl, rfl, by decide +kernel, rfl, by decide +kernel, by decide +kernel⟩
theorem ok__law_span (fr : Fre P K mg) (F : Fu K mg "_law_span" s__law_span)  : Cal P w K mg base 1 "_law_span" s__law_span ["lines", "n"] m__law_span :=
  cal_of (k := 0) (N := ["lines", "n", "least", "most", "a", "b", "c", "number"]) (b := b__law_span) F sc__law_span (fun _ _ _ _ _ _ us hl => match us, hl with | [_, _], _ => rfl) fun f cdv A outer s H hr rm =>
  (xs_cons (xs_asg (ws := [2, 3]) (xe_tup (xa_cons xe_non (xa_cons xe_non xa_nil))) (xg_tup rfl (xgs_cons (w_gn 2 sc__law_span.nd) (xgs_cons (w_gn 3 sc__law_span.nd) xgs_nil))))
  (xs_cons (w_for [4, 5, 6] (xi_seq (w_var 0)) (xg_tup rfl (xgs_cons (w_gn 4 sc__law_span.nd) (xgs_cons (w_gn 5 sc__law_span.nd) (xgs_cons (w_gn 6 sc__law_span.nd) xgs_nil)))) (xs_cons (w_set 7 sc__law_span.nd (xe_add (xe_mul (w_var 4) (w_var 1)) (w_var 6)))
  (xs_cons (xs_if (xt_w (xw_and (xt_eq rm (w_var 5) xe_int) (xw_and1 (xt_lt rm (w_var 7) xe_int)))) (xs_one (xs_ret (xe_tup (xa_cons xe_int (xa_cons xe_int xa_nil))))) xs_nil)
  (xs_cons (xs_if (xt_gt rm (w_var 5) xe_int) (xs_one (w_set 2 sc__law_span.nd (xe_if (xt_isnot (w_var 2) xe_non) (xe_max2 rm rfl fr.f_max (xa_cons (xe_sub xe_int (xe_div (w_var 7) (w_var 5))) (xa_cons (w_var 2) xa_nil))) (xe_sub xe_int (xe_div (w_var 7) (w_var 5)))))) xs_nil)
  (xs_one (xs_if (xt_lt rm (w_var 5) xe_int) (xs_one (w_set 3 sc__law_span.nd (xe_if (xt_isnot (w_var 3) xe_non) (xe_min2 rm rfl fr.f_min (xa_cons (xe_div (w_var 7) (xe_sub xe_int (w_var 5))) (xa_cons (w_var 3) xa_nil))) (xe_div (w_var 7) (xe_sub xe_int (w_var 5)))))) xs_nil))))))
  (xs_one (xs_ret (xe_tup (xa_cons (w_var 2) (xa_cons (w_var 3) xa_nil)))))))
theorem sc__law_is_some : FnScope ["lines", "n", "least", "most"] ["lines", "n"] (defScope s__law_is_some) := ⟨rfl, rfl, rfl, by decide +kernel, rfl, by decide +kernel, by decide +kernel⟩
theorem ok__law_is_some (fr : Fre P K mg) (F : Fu K mg "_law_is_some" s__law_is_some) (C__law_span : Cal P w K mg base 1 "_law_span" s__law_span ["lines", "n"] m__law_span) : Cal P w K mg base 2 "_law_is_some" s__law_is_some ["lines", "n"] m__law_is_some :=
  cal_of (k := 1) (N := ["lines", "n", "least", "most"]) (b := b__law_is_some) F sc__law_is_some (fun _ _ _ _ _ _ us hl => match us, hl with | [_, _], _ => rfl) fun f cdv A outer s H hr rm =>
  (xs_cons (xs_asg (ws := [2, 3]) (w_call C__law_span hr rm (xa_cons (w_var 0) (xa_cons (w_var 1) xa_nil))) (xg_tup rfl (xgs_cons (w_gn 2 sc__law_is_some.nd) (xgs_cons (w_gn 3 sc__law_is_some.nd) xgs_nil))))
  (xs_one (xs_ret (xe_or (xe_is (w_var 2) xe_non) (xe_or (xe_is (w_var 3) xe_non) (xe_or1 (xe_le rm (w_var 2) (w_var 3))))))))
theorem sc__law_lacks : FnScope ["ups", "downs", "n", "a", "b", "c"] ["ups", "downs", "n"] (defScope s__law_lacks) := ⟨rfl, rfl, rfl, by decide +kernel, rfl, by decide +kernel, by decide +kernel⟩
theorem ok__law_lacks (fr : Fre P K mg) (F : Fu K mg "_law_lacks" s__law_lacks) (C__law_is_some : Cal P w K mg base 2 "_law_is_some" s__law_is_some ["lines", "n"] m__law_is_some) : Cal P w K mg base 3 "_law_lacks" s__law_lacks ["ups", "downs", "n"] m__law_lacks :=
  cal_of (k := 2) (N := ["ups", "downs", "n", "a", "b", "c"]) (b := b__law_lacks) F sc__law_lacks (fun _ _ _ _ _ _ us hl => match us, hl with | [_, _, _], _ => rfl) fun f cdv A outer s H hr rm =>
  (xs_one (xs_ret (xe_ne rm (xe_comp (own := [("a", 3), ("b", 4), ("c", 5)]) rfl sc__law_lacks.nd (xi_seq (w_var 0)) (blkOk_by rfl) (fun _ _ _ _ _ => (xg_tup rfl (xgs_cons (w_gn 3 sc__law_lacks.nd) (xgs_cons (w_gn 4 sc__law_lacks.nd) (xgs_cons (w_gn 5 sc__law_lacks.nd) xgs_nil))))) (fun _ _ _ _ _ => (xts_one (xt_of (w_call C__law_is_some hr rm.blk (xa_cons (xe_add (w_var 1) (xe_lst (xa_cons (xe_tup (xa_cons (xe_sub xe_int (w_var 3)) (xa_cons (xe_sub xe_int (w_var 4)) (xa_cons (xe_sub (xe_sub xe_int (w_var 5)) xe_int) xa_nil)))) xa_nil))) (xa_cons (w_var 2) xa_nil)))))) (fun _ _ _ _ _ => xe_int)) (xe_lst xa_nil))))
theorem sc__law_sound_double : FnScope ["factors", "ups", "downs", "n"] ["factors"] (defScope s__law_sound_double) := ⟨rfl, rfl, rfl, by decide +kernel, rfl, by decide +kernel, by decide +kernel⟩
theorem ok__law_sound_double (fr : Fre P K mg) (F : Fu K mg "_law_sound_double" s__law_sound_double) (C__law_lines : Cal P w K mg base 1 "_law_lines" s__law_lines ["factors", "e"] m__law_lines) (C__law_lacks : Cal P w K mg base 3 "_law_lacks" s__law_lacks ["ups", "downs", "n"] m__law_lacks) : Cal P w K mg base 4 "_law_sound_double" s__law_sound_double ["factors"] m__law_sound_double :=
  cal_of (k := 3) (N := ["factors", "ups", "downs", "n"]) (b := b__law_sound_double) F sc__law_sound_double (fun _ _ _ _ _ _ us hl => match us, hl with | [_], _ => rfl) fun f cdv A outer s H hr rm =>
  (xs_cons (xs_asg (ws := [1, 2]) (xe_tup (xa_cons (w_call C__law_lines hr rm (xa_cons (w_var 0) (xa_cons xe_int xa_nil))) (xa_cons (w_call C__law_lines hr rm (xa_cons (w_var 0) (xa_cons (xe_sub xe_int xe_int) xa_nil))) xa_nil))) (xg_tup rfl (xgs_cons (w_gn 1 sc__law_sound_double.nd) (xgs_cons (w_gn 2 sc__law_sound_double.nd) xgs_nil))))
  (xs_one (xs_ret (xe_eq rm (xe_comp (own := [("n", 3)]) rfl sc__law_sound_double.nd (xi_range1 rfl fr.f_range (xa_cons xe_int xa_nil)) (blkOk_by rfl) (fun _ _ _ _ _ => (w_gn 3 sc__law_sound_double.nd)) (fun _ _ _ _ _ => (xts_one (xt_of (w_call C__law_lacks hr rm.blk (xa_cons (w_var 1) (xa_cons (w_var 2) (xa_cons (w_var 3) xa_nil))))))) (fun _ _ _ _ _ => (w_var 3))) (xe_lst xa_nil)))))
theorem sc__law_caught : FnScope ["call", "args", "found", "error"] ["call", "args"] (defScope s__law_caught) := ⟨rfl, rfl, rfl, by decide +kernel, rfl, by decide +kernel, by decide +kernel⟩
theorem ok__law_caught (fr : Fre P K mg) (F : Fu K mg "_law_caught" s__law_caught) (C_bounds_of : CalX P w K mg base 8 "bounds_of" s_bounds_of ["double", "n"] m_bounds_of) (C_is_bounded : CalX P w K mg base 8 "is_bounded" s_is_bounded ["double"] m_is_bounded) (C_is_sound : CalX P w K mg base 8 "is_sound" s_is_sound ["double"] m_is_sound) : Cal P w K mg base 9 "_law_caught" s__law_caught ["call", "args"] m__law_caught :=
  cal_of (k := 8) (N := ["call", "args", "found", "error"]) (b := b__law_caught) F sc__law_caught (fun _ _ _ _ _ _ us hl => match us, hl with | [_, _], _ => rfl) fun f cdv A outer s H hr rm =>
  (xs_cons (w_set 2 sc__law_caught.nd xe_non)
  (xs_cons (w_try 3 2 fr.be_SameError sc__law_caught.nd (fun pn xe po => (xsx_one (x1_if (xt_gt (rm.tr pn xe) (xe_len rfl fr.f_len (xa_cons (w_var 1) xa_nil)) xe_int) (xsx_one (x1_expr (wr_callL 0 (tbl_cons (ent_of C_bounds_of fr.fv_bounds_of (show 8 ≤ 8 by decide) rfl) tbl_nil) hr (rm.tr pn xe) (xa_cons (xe_item (w_var 1) xe_int) (xa_cons (xe_item (w_var 1) xe_int) xa_nil))))) (xsx_one (x1_expr (wr_callL 0 (tbl_cons (ent_of C_is_sound fr.fv_is_sound (show 8 ≤ 8 by decide) rfl) (tbl_cons (ent_of C_is_bounded fr.fv_is_bounded (show 8 ≤ 8 by decide) rfl) tbl_nil)) hr (rm.tr pn xe) (xa_cons (xe_item (w_var 1) xe_int) xa_nil))))))))
  (xs_one (xs_ret (xe_lst (xa_cons (w_isX fr.f_isinstance fr.cl_InvalidSum (w_var 2)) (xa_cons (w_isX fr.f_isinstance fr.cl_InvalidNumber (w_var 2)) (xa_cons (xe_if (xt_isnN (w_var 2)) (xe_reprG rm fr.sysd rfl fr.f_repr (xa_cons (w_val (w_var 2)) xa_nil)) xe_str) xa_nil))))))))
theorem sc__law_right : FnScope ["generator", "double", "due", "rims", "n", "bad", "kept", "downs", "k", "least", "most", "line"] ["generator"] (defScope s__law_right) := ⟨rfl, rfl, rfl, by decide +kernel, rfl, by decide +kernel, by decide +kernel⟩
theorem kw_is_sound_0_double : KwC "is_sound" s_is_sound ["double"] 0 ["double"] [0] := fun kV doc pm an cdv ct us ws h1 h2 => match us, ws, h1, h2 with | [], [_], _, _ => rfl
theorem kw_is_bounded_0_double : KwC "is_bounded" s_is_bounded ["double"] 0 ["double"] [0] := fun kV doc pm an cdv ct us ws h1 h2 => match us, ws, h1, h2 with | [], [_], _, _ => rfl
theorem kw_bounds_of_0_n_double : KwC "bounds_of" s_bounds_of ["double", "n"] 0 ["n", "double"] [1, 0] := fun kV doc pm an cdv ct us ws h1 h2 => match us, ws, h1, h2 with | [], [_, _], _, _ => rfl
theorem ok__law_right (fr : Fre P K mg) (F : Fu K mg "_law_right" s__law_right) (C__law_raw_double : Cal P w K mg base 6 "_law_raw_double" s__law_raw_double ["generator"] m__law_raw_double) (C__law_lines : Cal P w K mg base 1 "_law_lines" s__law_lines ["factors", "e"] m__law_lines) (C__law_sound_double : Cal P w K mg base 4 "_law_sound_double" s__law_sound_double ["factors"] m__law_sound_double) (C_is_sound : CalX P w K mg base 8 "is_sound" s_is_sound ["double"] m_is_sound) (C_is_bounded : CalX P w K mg base 8 "is_bounded" s_is_bounded ["double"] m_is_bounded) (C__law_caught : Cal P w K mg base 9 "_law_caught" s__law_caught ["call", "args"] m__law_caught) (C__law_random : Cal P w K mg base 2 "_law_random" s__law_random ["generator", "bound"] m__law_random) (C__law_span : Cal P w K mg base 1 "_law_span" s__law_span ["lines", "n"] m__law_span) (C_bounds_of : CalX P w K mg base 8 "bounds_of" s_bounds_of ["double", "n"] m_bounds_of) (C_double_value : Cal P w K mg base 8 "double_value" s_double_value ["double", "n", "k"] m_double_value) : Cal P w K mg base 10 "_law_right" s__law_right ["generator"] m__law_right :=
  cal_of (k := 9) (N := ["generator", "double", "due", "rims", "n", "bad", "kept", "downs", "k", "least", "most", "line"]) (b := b__law_right) F sc__law_right (fun _ _ _ _ _ _ us hl => match us, hl with | [_], _ => rfl) fun f cdv A outer s H hr rm =>
  (xs_cons (w_set 1 sc__law_right.nd (w_call C__law_raw_double hr rm (xa_cons (w_var 0) xa_nil)))
  (xs_cons (xs_parO (i := 6) (j := 7) rfl sc__law_right.nd (xao_dat (xe_reprG rm fr.sysd rfl fr.f_repr (xa_cons (w_var 1) xa_nil)) (xao_dat (w_call C__law_lines hr rm (xa_cons (xe_item (w_var 1) xe_int) (xa_cons (xe_sub xe_int xe_int) xa_nil))) xao_nil)))
  (xs_cons (w_set 2 sc__law_right.nd (w_call C__law_sound_double hr rm (xa_cons (xe_item (w_var 1) xe_int) xa_nil)))
  (xs_cons (xs_if (xt_ne rm (xe_reprG rm fr.sysd rfl fr.f_repr (xa_cons (xe_lst (xa_cons (w_call C_is_sound.plain hr rm (xa_cons (w_var 1) xa_nil)) (xa_cons (w_callK0 C_is_sound.plain hr rm kw_is_sound_0_double (xk_cons (w_var 1) xk_nil)) xa_nil))) xa_nil)) (xe_reprG rm fr.sysd rfl fr.f_repr (xa_cons (xe_lst (xa_cons (w_var 2) (xa_cons (w_var 2) xa_nil))) xa_nil))) (xs_one (xs_ret xe_bl)) xs_nil)
  (xs_cons (w_set 3 sc__law_right.nd (xe_lst (xa_cons (xe_ne rm (xe_comp (own := [("line", 11)]) rfl sc__law_right.nd (xi_seq (w_var 7)) (blkOk_by rfl) (fun _ _ _ _ _ => (w_gn 11 sc__law_right.nd)) (fun _ _ _ _ _ => (xts_one (xt_gt rm.blk (xe_item (w_var 11) xe_int) xe_int))) (fun _ _ _ _ _ => (w_var 11))) (xe_lst xa_nil)) (xa_cons (xe_ne rm (xe_comp (own := [("line", 11)]) rfl sc__law_right.nd (xi_seq (w_var 7)) (blkOk_by rfl) (fun _ _ _ _ _ => (w_gn 11 sc__law_right.nd)) (fun _ _ _ _ _ => (xts_one (xt_lt rm.blk (xe_item (w_var 11) xe_int) xe_int))) (fun _ _ _ _ _ => (w_var 11))) (xe_lst xa_nil)) xa_nil))))
  (xs_cons (xs_if (xt_ne rm (xe_reprG rm fr.sysd rfl fr.f_repr (xa_cons (xe_lst (xa_cons (w_call C_is_bounded.plain hr rm (xa_cons (w_var 1) xa_nil)) (xa_cons (w_callK0 C_is_bounded.plain hr rm kw_is_bounded_0_double (xk_cons (w_var 1) xk_nil)) xa_nil))) xa_nil)) (xe_reprG rm fr.sysd rfl fr.f_repr (xa_cons (xe_mul (xe_lst (xa_cons (xe_eq rm (w_var 3) (xe_lst (xa_cons xe_bl (xa_cons xe_bl xa_nil)))) xa_nil)) xe_int) xa_nil))) (xs_one (xs_ret xe_bl)) xs_nil)
  (xs_cons (xs_if (xt_ne rm (w_var 3) (xe_lst (xa_cons xe_bl (xa_cons xe_bl xa_nil)))) (xs_one (xs_ret (xe_and (xe_eq rm (w_call C__law_caught hr rm (xa_cons (w_gval fr.fv_bounds_of.g) (xa_cons (xe_lst (xa_cons (w_var 1) (xa_cons xe_non xa_nil))) xa_nil))) (xe_lst (xa_cons xe_bl (xa_cons xe_bl (xa_cons (w_var 6) xa_nil))))) (xe_and1 (xe_eq rm (w_call C__law_caught hr rm (xa_cons (w_gval fr.fv_bounds_of.g) (xa_cons (xe_lst (xa_cons (w_var 1) (xa_cons xe_int xa_nil))) xa_nil))) (xe_lst (xa_cons xe_bl (xa_cons xe_bl (xa_cons (w_var 6) xa_nil))))))))) xs_nil)
  (xs_cons (w_for [4] (xi_seq (xe_lst (xa_cons xe_int (xa_cons xe_int (xa_cons xe_int (xa_cons (w_call C__law_random hr rm (xa_cons (w_var 0) (xa_cons xe_int xa_nil))) (xa_cons xe_int (xa_cons xe_int xa_nil)))))))) (w_gn 4 sc__law_right.nd) (xs_cons (xs_asg (ws := [9, 10]) (w_call C__law_span hr rm (xa_cons (w_var 7) (xa_cons (w_var 4) xa_nil))) (xg_tup rfl (xgs_cons (w_gn 9 sc__law_right.nd) (xgs_cons (w_gn 10 sc__law_right.nd) xgs_nil))))
  (xs_cons (w_set 2 sc__law_right.nd (xe_if (xt_le rm (w_var 9) (w_var 10)) (xe_tup (xa_cons (w_var 9) (xa_cons (w_var 10) xa_nil))) xe_non))
  (xs_cons (xs_if (xt_ne rm (xe_reprG rm fr.sysd rfl fr.f_repr (xa_cons (xe_lst (xa_cons (w_call C_bounds_of.plain hr rm (xa_cons (w_var 1) (xa_cons (w_var 4) xa_nil))) (xa_cons (w_callK0 C_bounds_of.plain hr rm kw_bounds_of_0_n_double (xk_cons (w_var 4) (xk_cons (w_var 1) xk_nil))) xa_nil))) xa_nil)) (xe_reprG rm fr.sysd rfl fr.f_repr (xa_cons (xe_lst (xa_cons (w_var 2) (xa_cons (w_var 2) xa_nil))) xa_nil))) (xs_one (xs_ret xe_bl)) xs_nil)
  (xs_one (w_for [8] (xi_seq (xe_if (xt_isnot (w_var 2) xe_non) (xe_lst (xa_cons (xe_sub (w_var 9) xe_int) (xa_cons (xe_add (w_var 10) xe_int) xa_nil))) (xe_lst (xa_cons xe_int (xa_cons xe_int xa_nil))))) (w_gn 8 sc__law_right.nd) (xs_one (xs_if (xt_w (xw_and (xt_ne rm (w_call C_double_value hr rm (xa_cons (w_var 1) (xa_cons (xe_min2 rm rfl fr.f_min (xa_cons (w_var 4) (xa_cons xe_int xa_nil))) (xa_cons (w_var 8) xa_nil)))) (xe_tup (xa_cons xe_int (xa_cons xe_int xa_nil)))) (xw_and1 (xt_lt rm (w_var 4) xe_int)))) (xs_one (xs_ret xe_bl)) xs_nil))))))))
  (xs_cons (w_for [5] (xi_seq (xe_lst (xa_cons xe_non (xa_cons xe_bl (xa_cons (xe_sub xe_int xe_int) (xa_cons xe_str (xa_cons (xe_lst (xa_cons xe_int xa_nil)) (xa_cons (xe_tup (xa_cons xe_int xa_nil)) (xa_cons xe_dict0 xa_nil))))))))) (w_gn 5 sc__law_right.nd) (xs_one (xs_if (xt_ne rm (w_call C__law_caught hr rm (xa_cons (w_gval fr.fv_bounds_of.g) (xa_cons (xe_lst (xa_cons (w_var 1) (xa_cons (w_var 5) xa_nil))) xa_nil))) (xe_lst (xa_cons xe_bl (xa_cons xe_bl (xa_cons (xe_reprG rm fr.sysd rfl fr.f_repr (xa_cons (w_var 5) xa_nil)) xa_nil))))) (xs_one (xs_ret xe_bl)) xs_nil)))
  (xs_one (xs_ret (xe_eq rm (xe_reprG rm fr.sysd rfl fr.f_repr (xa_cons (w_var 1) xa_nil)) (w_var 6)))))))))))))
theorem sc__law_no_doubles : FnScope ["factors", "found", "one", "k", "odd"] [] (defScope s__law_no_doubles) := ⟨rfl, rfl, rfl, by decide +kernel, rfl, by decide +kernel, by decide +kernel⟩
theorem ok__law_no_doubles (fr : Fre P K mg) (F : Fu K mg "_law_no_doubles" s__law_no_doubles)  : Cal P w K mg base 1 "_law_no_doubles" s__law_no_doubles [] m__law_no_doubles :=
  cal_of (k := 0) (N := ["factors", "found", "one", "k", "odd"]) (b := b__law_no_doubles) F sc__law_no_doubles (fun _ _ _ _ _ _ us hl => match us, hl with | [], _ => rfl) fun f cdv A outer s H hr rm =>
  (xs_cons (xs_asg (ws := [2, 3]) (xe_tup (xa_cons (xe_tup (xa_cons xe_int (xa_cons xe_int xa_nil))) (xa_cons (xe_tup (xa_cons xe_int (xa_cons xe_int (xa_cons xe_int xa_nil)))) xa_nil))) (xg_tup rfl (xgs_cons (w_gn 2 sc__law_no_doubles.nd) (xgs_cons (w_gn 3 sc__law_no_doubles.nd) xgs_nil))))
  (xs_cons (w_set 0 sc__law_no_doubles.nd (xe_lst (xa_cons (xe_lst (xa_cons (xe_tup (xa_cons (w_var 2) (xa_cons (w_var 3) (xa_cons xe_int xa_nil)))) (xa_cons (xe_tup (xa_cons (w_var 2) (xa_cons (w_var 3) (xa_cons (xe_sub xe_int xe_int) xa_nil)))) xa_nil))) (xa_cons (xe_lst (xa_cons (xe_tup (xa_cons (xe_tup (xa_cons xe_int (xa_cons xe_int xa_nil))) (xa_cons (w_var 3) (xa_cons xe_int xa_nil)))) xa_nil)) (xa_cons (xe_lst (xa_cons (xe_tup (xa_cons (w_var 2) (xa_cons (w_var 3) (xa_cons xe_int xa_nil)))) xa_nil)) (xa_cons (xe_lst (xa_cons (xe_tup (xa_cons (w_var 2) (xa_cons (w_var 3) (xa_cons xe_bl xa_nil)))) xa_nil)) (xa_cons (xe_lst (xa_cons (xe_tup (xa_cons (xe_tup (xa_cons xe_int (xa_cons xe_int xa_nil))) (xa_cons (w_var 3) (xa_cons xe_int xa_nil)))) xa_nil)) (xa_cons (xe_lst (xa_cons (xe_tup (xa_cons (w_var 2) (xa_cons (xe_tup (xa_cons xe_int (xa_cons xe_bl (xa_cons xe_int xa_nil)))) (xa_cons xe_int xa_nil)))) xa_nil)) (xa_cons (xe_lst (xa_cons (xe_lst (xa_cons (w_var 2) (xa_cons (w_var 3) (xa_cons xe_int xa_nil)))) xa_nil)) xa_nil)))))))))
  (xs_cons (xs_setC (i := 1) (own := [("odd", 4)]) rfl sc__law_no_doubles.nd rfl rfl (sw_true rfl rfl rfl rfl) (xi_seq (xe_add (w_var 0) (xe_lst (xa_cons (xe_lst (xa_cons (xe_tup (xa_cons (w_var 2) (xa_cons (xe_lst (xa_cons xe_int (xa_cons xe_int (xa_cons xe_int xa_nil)))) (xa_cons xe_int xa_nil)))) xa_nil)) (xa_cons (xe_lst (xa_cons (xe_tup (xa_cons (xe_tup (xa_cons xe_int (xa_cons xe_int xa_nil))) (xa_cons (w_var 3) (xa_cons xe_int xa_nil)))) xa_nil)) (xa_cons (xe_lst (xa_cons (xe_tup (xa_cons (w_var 2) (xa_cons (w_var 3) xa_nil))) xa_nil)) (xa_cons (xe_tup xa_nil) (xa_cons xe_non xa_nil)))))))) (blkOk_by rfl) (fun _ _ _ _ _ => (w_gn 4 sc__law_no_doubles.nd)) (fun _ _ _ _ _ => xts_nil) (fun _ _ _ _ _ => (xe_tup (xa_cons xe_str (xa_cons (xe_lst (xa_cons (xe_lst (xa_cons xe_int xa_nil)) xa_nil)) (xa_cons (w_var 2) (xa_cons (w_var 2) (xa_cons (w_var 4) xa_nil))))))))
  (xs_cons (w_set 1 sc__law_no_doubles.nd (xe_add (w_var 1) (xe_comp (own := [("odd", 4)]) rfl sc__law_no_doubles.nd (xi_seq (xe_lst (xa_cons (xe_lst (xa_cons (xe_lst (xa_cons xe_bl xa_nil)) xa_nil)) (xa_cons (xe_lst (xa_cons (xe_lst (xa_cons xe_int (xa_cons xe_int xa_nil))) xa_nil)) (xa_cons (xe_lst (xa_cons (xe_lst (xa_cons xe_int xa_nil)) (xa_cons (xe_lst xa_nil) xa_nil))) (xa_cons (xe_lst (xa_cons (xe_tup (xa_cons xe_int xa_nil)) xa_nil)) (xa_cons (xe_tup (xa_cons (xe_lst (xa_cons xe_int xa_nil)) xa_nil)) (xa_cons xe_non (xa_cons (xe_lst (xa_cons xe_int xa_nil)) xa_nil))))))))) (blkOk_by rfl) (fun _ _ _ _ _ => (w_gn 4 sc__law_no_doubles.nd)) (fun _ _ _ _ _ => xts_nil) (fun _ _ _ _ _ => (xe_tup (xa_cons xe_str (xa_cons (w_var 4) (xa_cons (w_var 2) (xa_cons (w_var 2) (xa_cons (xe_lst xa_nil) xa_nil))))))))))
  (xs_cons (w_set 1 sc__law_no_doubles.nd (xe_add (xe_add (w_var 1) (xe_comp (own := [("odd", 4)]) rfl sc__law_no_doubles.nd (xi_seq (xe_lst (xa_cons (xe_tup (xa_cons xe_int (xa_cons xe_int xa_nil))) (xa_cons (xe_tup (xa_cons xe_bl (xa_cons xe_int xa_nil))) (xa_cons (xe_tup (xa_cons xe_int (xa_cons xe_int xa_nil))) (xa_cons (xe_lst (xa_cons xe_int (xa_cons xe_int xa_nil))) (xa_cons (xe_tup (xa_cons xe_int (xa_cons xe_int xa_nil))) (xa_cons xe_non xa_nil)))))))) (blkOk_by rfl) (fun _ _ _ _ _ => (w_gn 4 sc__law_no_doubles.nd)) (fun _ _ _ _ _ => xts_nil) (fun _ _ _ _ _ => (xe_tup (xa_cons xe_str (xa_cons (xe_lst (xa_cons (xe_lst (xa_cons xe_int xa_nil)) xa_nil)) (xa_cons (w_var 4) (xa_cons (w_var 2) (xa_cons (xe_lst xa_nil) xa_nil))))))))) (xe_lst (xa_cons (xe_tup (xa_cons xe_str (xa_cons (xe_lst (xa_cons (xe_lst (xa_cons xe_int xa_nil)) xa_nil)) (xa_cons (w_var 2) (xa_cons (w_var 2) (xa_cons (xe_lst xa_nil) xa_nil)))))) xa_nil))))
  (xs_one (xs_ret (xe_add (xe_add (w_var 1) (xe_comp (own := [("odd", 4)]) rfl sc__law_no_doubles.nd (xi_seq (xe_lst (xa_cons (xe_tup (xa_cons xe_int (xa_cons xe_int xa_nil))) (xa_cons (xe_tup (xa_cons xe_int (xa_cons xe_bl xa_nil))) (xa_cons (xe_tup (xa_cons xe_int (xa_cons xe_int xa_nil))) (xa_cons (xe_lst (xa_cons xe_int (xa_cons xe_int xa_nil))) (xa_cons (xe_tup (xa_cons (xe_sub xe_int xe_int) (xa_cons xe_int xa_nil))) (xa_cons xe_non xa_nil)))))))) (blkOk_by rfl) (fun _ _ _ _ _ => (w_gn 4 sc__law_no_doubles.nd)) (fun _ _ _ _ _ => xts_nil) (fun _ _ _ _ _ => (xe_tup (xa_cons xe_str (xa_cons (xe_lst (xa_cons (xe_lst (xa_cons xe_int xa_nil)) xa_nil)) (xa_cons (w_var 2) (xa_cons (w_var 4) (xa_cons (xe_lst xa_nil) xa_nil))))))))) (xe_lst (xa_cons (xe_tup (xa_cons (xe_lst (xa_cons xe_str xa_nil)) (xa_cons (xe_lst (xa_cons (xe_lst (xa_cons xe_int xa_nil)) xa_nil)) (xa_cons (w_var 2) (xa_cons (w_var 2) (xa_cons (xe_lst xa_nil) xa_nil)))))) xa_nil))))))))))
theorem sc_law : FnScope ["script", "index", "bads", "bad", "three", "two", "generator", "turn", "behind", "call"] ["script"] (defScope s_law) := ⟨rfl, rfl, rfl, by decide +kernel, rfl, by decide +kernel, by decide +kernel⟩
theorem ok_law (fr : Fre P K mg) (F : Fu K mg "law" s_law) (C__law_generator : Cal P w K mg base 2 "_law_generator" s__law_generator ["script", "index"] m__law_generator) (C__law_right : Cal P w K mg base 10 "_law_right" s__law_right ["generator"] m__law_right) (C__law_no_doubles : Cal P w K mg base 1 "_law_no_doubles" s__law_no_doubles [] m__law_no_doubles) (C__law_caught : Cal P w K mg base 9 "_law_caught" s__law_caught ["call", "args"] m__law_caught) (C_is_sound : CalX P w K mg base 8 "is_sound" s_is_sound ["double"] m_is_sound) (C_is_bounded : CalX P w K mg base 8 "is_bounded" s_is_bounded ["double"] m_is_bounded) (C_bounds_of : CalX P w K mg base 8 "bounds_of" s_bounds_of ["double", "n"] m_bounds_of) : Cal P w K mg base 11 "law" s_law ["script"] m_law :=
  cal_of (k := 10) (N := ["script", "index", "bads", "bad", "three", "two", "generator", "turn", "behind", "call"]) (b := b_law) F sc_law (fun _ _ _ _ _ _ us hl => match us, hl with | [_], _ => rfl) fun f cdv A outer s H hr rm =>
  (xs_cons (w_for [1] (xi_range1 rfl fr.f_range (xa_cons xe_int xa_nil)) (w_gn 1 sc_law.nd) (xs_cons (w_own 6 sc_law.nd (w_call C__law_generator hr rm (xa_cons (w_var 0) (xa_cons (w_var 1) xa_nil))))
  (xs_one (w_for [7] (xi_range1 rfl fr.f_range (xa_cons xe_int xa_nil)) (w_gn 7 sc_law.nd) (xs_one (xs_if (xt_not (xt_of (w_call C__law_right hr rm (xa_cons (w_var 6) xa_nil)))) (xs_one (xs_ret xe_bl)) xs_nil))))))
  (xs_cons (w_set 2 sc_law.nd (xe_lst (xa_cons xe_non (xa_cons (xe_tup xa_nil) (xa_cons (xe_lst xa_nil) (xa_cons xe_str (xa_cons xe_int (xa_cons xe_dict0 (xa_cons (xe_tup (xa_cons xe_str (xa_cons (xe_lst (xa_cons (xe_lst (xa_cons xe_int xa_nil)) xa_nil)) (xa_cons (xe_tup (xa_cons xe_int (xa_cons xe_int xa_nil))) (xa_cons (xe_tup (xa_cons xe_int (xa_cons xe_int xa_nil))) xa_nil))))) (xa_cons (xe_tup (xa_cons xe_str (xa_cons (xe_lst (xa_cons (xe_lst (xa_cons xe_int xa_nil)) xa_nil)) (xa_cons (xe_tup (xa_cons xe_int (xa_cons xe_int xa_nil))) (xa_cons (xe_tup (xa_cons xe_int (xa_cons xe_int xa_nil))) (xa_cons (xe_lst xa_nil) xa_nil)))))) (xa_cons (xe_tup (xa_cons xe_str (xa_cons (xe_lst (xa_cons xe_int xa_nil)) (xa_cons (xe_tup (xa_cons xe_int (xa_cons xe_int xa_nil))) (xa_cons (xe_lst xa_nil) xa_nil))))) xa_nil)))))))))))
  (xs_cons (w_for [3] (xi_seq (xe_add (w_var 2) (w_call0 C__law_no_doubles hr rm))) (w_gn 3 sc_law.nd) (xs_cons (w_for [8] (xi_seq (xe_lst (xa_cons xe_non (xa_cons xe_int xa_nil)))) (w_gn 8 sc_law.nd) (xs_one (xs_if (xt_ne rm (w_call C__law_caught hr rm (xa_cons (w_gval fr.fv_bounds_of.g) (xa_cons (xe_lst (xa_cons (w_var 3) (xa_cons (w_var 8) xa_nil))) xa_nil))) (xe_lst (xa_cons xe_bl (xa_cons xe_bl (xa_cons (xe_reprG rm fr.sysd rfl fr.f_repr (xa_cons (w_var 3) xa_nil)) xa_nil))))) (xs_one (xs_ret xe_bl)) xs_nil)))
  (xs_one (xs_if (xt_ne rm (xe_comp (own := [("call", 9)]) rfl sc_law.nd (xi_seq (xe_lst (xa_cons (w_gval fr.fv_is_sound.g) (xa_cons (w_gval fr.fv_is_bounded.g) xa_nil)))) (blkOk_by rfl) (fun _ _ _ _ _ => (w_gn 9 sc_law.nd)) (fun _ _ _ _ _ => (xts_one (xt_ne rm.blk (w_call C__law_caught hr rm.blk (xa_cons (w_var 9) (xa_cons (xe_lst (xa_cons (w_var 3) xa_nil)) xa_nil))) (xe_lst (xa_cons xe_bl (xa_cons xe_bl (xa_cons (xe_reprG rm.blk fr.sysd rfl fr.f_repr (xa_cons (w_var 3) xa_nil)) xa_nil))))))) (fun _ _ _ _ _ => (w_var 9))) (xe_lst xa_nil)) (xs_one (xs_ret xe_bl)) xs_nil))))
  (xs_cons (xs_if (xt_isnot (w_call C_is_sound.plain hr rm (xa_cons (xe_tup (xa_cons xe_str (xa_cons (xe_lst (xa_cons (xe_lst (xa_cons xe_int xa_nil)) xa_nil)) (xa_cons (xe_tup (xa_cons xe_int (xa_cons xe_int xa_nil))) (xa_cons (xe_tup (xa_cons xe_int (xa_cons xe_int xa_nil))) (xa_cons (xe_lst (xa_cons (xe_tup (xa_cons (xe_tup (xa_cons xe_int (xa_cons xe_int xa_nil))) (xa_cons (xe_tup (xa_cons (xe_sub xe_int xe_int) (xa_cons xe_int (xa_cons xe_int xa_nil)))) (xa_cons xe_int xa_nil)))) (xa_cons (xe_tup (xa_cons (xe_tup (xa_cons xe_int (xa_cons xe_int xa_nil))) (xa_cons (xe_tup (xa_cons (xe_sub xe_int xe_int) (xa_cons xe_int (xa_cons (xe_sub xe_int xe_int) xa_nil)))) (xa_cons (xe_sub xe_int xe_int) xa_nil)))) xa_nil))) xa_nil)))))) xa_nil)) xe_bl) (xs_one (xs_ret xe_bl)) xs_nil)
  (xs_cons (w_set 4 sc_law.nd (xe_tup (xa_cons xe_str (xa_cons (xe_lst (xa_cons (xe_lst (xa_cons xe_int xa_nil)) xa_nil)) (xa_cons (xe_tup (xa_cons xe_int (xa_cons xe_int xa_nil))) (xa_cons (xe_tup (xa_cons xe_int (xa_cons xe_int xa_nil))) (xa_cons (xe_lst (xa_cons (xe_tup (xa_cons (xe_tup (xa_cons xe_int (xa_cons xe_int xa_nil))) (xa_cons (xe_tup (xa_cons (xe_sub xe_int xe_int) (xa_cons xe_int (xa_cons xe_int xa_nil)))) (xa_cons (xe_sub xe_int xe_int) xa_nil)))) (xa_cons (xe_tup (xa_cons (xe_tup (xa_cons xe_int (xa_cons xe_int xa_nil))) (xa_cons (xe_tup (xa_cons (xe_sub xe_int xe_int) (xa_cons xe_int (xa_cons xe_int xa_nil)))) (xa_cons xe_int xa_nil)))) (xa_cons (xe_tup (xa_cons (xe_tup (xa_cons xe_int (xa_cons xe_int xa_nil))) (xa_cons (xe_tup (xa_cons xe_int (xa_cons (xe_sub xe_int xe_int) (xa_cons xe_int xa_nil)))) (xa_cons (xe_sub xe_int xe_int) xa_nil)))) xa_nil)))) xa_nil)))))))
  (xs_cons (w_set 5 sc_law.nd (xe_tup (xa_cons xe_str (xa_cons (xe_lst (xa_cons (xe_lst (xa_cons xe_int xa_nil)) xa_nil)) (xa_cons (xe_tup (xa_cons xe_int (xa_cons xe_int xa_nil))) (xa_cons (xe_tup (xa_cons xe_int (xa_cons xe_int xa_nil))) (xa_cons (xe_lst (xa_cons (xe_tup (xa_cons (xe_tup (xa_cons xe_int (xa_cons xe_int xa_nil))) (xa_cons (xe_tup (xa_cons (xe_sub xe_int xe_int) (xa_cons xe_int (xa_cons xe_int xa_nil)))) (xa_cons xe_int xa_nil)))) (xa_cons (xe_tup (xa_cons (xe_tup (xa_cons xe_int (xa_cons xe_int xa_nil))) (xa_cons (xe_tup (xa_cons xe_int (xa_cons xe_int (xa_cons xe_int xa_nil)))) (xa_cons (xe_sub xe_int xe_int) xa_nil)))) (xa_cons (xe_tup (xa_cons (xe_tup (xa_cons xe_int (xa_cons xe_int xa_nil))) (xa_cons (xe_tup (xa_cons xe_int (xa_cons (xe_sub xe_int xe_int) (xa_cons xe_int xa_nil)))) (xa_cons (xe_sub xe_int xe_int) xa_nil)))) xa_nil)))) xa_nil)))))))
  (xs_one (xs_ret (xe_eq rm (xe_lst (xa_cons (w_call C_is_sound.plain hr rm (xa_cons (w_var 4) xa_nil)) (xa_cons (w_call C_is_sound.plain hr rm (xa_cons (w_var 5) xa_nil)) (xa_cons (w_call C_bounds_of.plain hr rm (xa_cons (w_var 4) (xa_cons xe_int xa_nil))) (xa_cons (w_call C_bounds_of.plain hr rm (xa_cons (w_var 5) (xa_cons xe_int xa_nil))) (xa_cons (w_call C_is_bounded.plain hr rm (xa_cons (xe_tup (xa_cons xe_str (xa_cons (xe_lst xa_nil) (xa_cons (xe_tup (xa_cons xe_int (xa_cons xe_int xa_nil))) (xa_cons (xe_tup (xa_cons xe_int (xa_cons xe_int xa_nil))) (xa_cons (xe_lst xa_nil) xa_nil)))))) xa_nil)) xa_nil)))))) (xe_lst (xa_cons xe_bl (xa_cons xe_bl (xa_cons (xe_tup (xa_cons xe_int (xa_cons xe_int xa_nil))) (xa_cons (xe_tup (xa_cons xe_int (xa_cons xe_int xa_nil))) (xa_cons xe_bl xa_nil)))))))))))))))
theorem all_ok (fr : Fre P K mg) (F_is_whole : Fu K mg "is_whole" s_is_whole) (F_is_count : Fu K mg "is_count" s_is_count) (F_check_number : Fu K mg "check_number" s_check_number) (F_common_of : Fu K mg "common_of" s_common_of) (F_is_fraction : Fu K mg "is_fraction" s_is_fraction) (F_lowest_of : Fu K mg "lowest_of" s_lowest_of) (F_is_poly : Fu K mg "is_poly" s_is_poly) (F_cut_poly : Fu K mg "cut_poly" s_cut_poly) (F_worth_in : Fu K mg "worth_in" s_worth_in) (F_power_in : Fu K mg "power_in" s_power_in) (F_is_double : Fu K mg "is_double" s_is_double) (F_worths_of_parts : Fu K mg "worths_of_parts" s_worths_of_parts) (F_is_line_told : Fu K mg "is_line_told" s_is_line_told) (F_is_rising_start : Fu K mg "is_rising_start" s_is_rising_start) (F_is_factor : Fu K mg "is_factor" s_is_factor) (F_are_factors : Fu K mg "are_factors" s_are_factors) (F_rising_parts : Fu K mg "rising_parts" s_rising_parts) (F_line_worth : Fu K mg "line_worth" s_line_worth) (F_whole_lines : Fu K mg "whole_lines" s_whole_lines) (F_span_where : Fu K mg "span_where" s_span_where) (F_is_cut : Fu K mg "is_cut" s_is_cut) (F_factors_worth : Fu K mg "factors_worth" s_factors_worth) (F_power_parts : Fu K mg "power_parts" s_power_parts) (F_has_double_form : Fu K mg "has_double_form" s_has_double_form) (F_steps_of : Fu K mg "steps_of" s_steps_of) (F_by_steps : Fu K mg "by_steps" s_by_steps) (F_last_without : Fu K mg "last_without" s_last_without) (F_last_missing : Fu K mg "last_missing" s_last_missing) (F_is_sound_everywhere : Fu K mg "is_sound_everywhere" s_is_sound_everywhere) (F_check_double_term : Fu K mg "check_double_term" s_check_double_term) (F_is_there : Fu K mg "is_there" s_is_there) (F_double_value_in : Fu K mg "double_value_in" s_double_value_in) (F_double_value : Fu K mg "double_value" s_double_value) (F_is_sound : Fu K mg "is_sound" s_is_sound) (F_is_bounded_in : Fu K mg "is_bounded_in" s_is_bounded_in) (F_is_bounded : Fu K mg "is_bounded" s_is_bounded) (F_span_of_k : Fu K mg "span_of_k" s_span_of_k) (F_bounds_of : Fu K mg "bounds_of" s_bounds_of) (F__law_hash : Fu K mg "_law_hash" s__law_hash) (F__law_cell : Fu K mg "_law_cell" s__law_cell) (F__law_random : Fu K mg "_law_random" s__law_random) (F__law_generator : Fu K mg "_law_generator" s__law_generator) (F__law_pick : Fu K mg "_law_pick" s__law_pick) (F__law_cut : Fu K mg "_law_cut" s__law_cut) (F__law_lines : Fu K mg "_law_lines" s__law_lines) (F__law_start : Fu K mg "_law_start" s__law_start) (F__law_base : Fu K mg "_law_base" s__law_base) (F__law_poly : Fu K mg "_law_poly" s__law_poly) (F__law_raw_factor : Fu K mg "_law_raw_factor" s__law_raw_factor) (F__law_double_poly : Fu K mg "_law_double_poly" s__law_double_poly) (F__law_rims : Fu K mg "_law_rims" s__law_rims) (F__law_raw_double : Fu K mg "_law_raw_double" s__law_raw_double) (F__law_span : Fu K mg "_law_span" s__law_span) (F__law_is_some : Fu K mg "_law_is_some" s__law_is_some) (F__law_lacks : Fu K mg "_law_lacks" s__law_lacks) (F__law_sound_double : Fu K mg "_law_sound_double" s__law_sound_double) (F__law_caught : Fu K mg "_law_caught" s__law_caught) (F__law_right : Fu K mg "_law_right" s__law_right) (F__law_no_doubles : Fu K mg "_law_no_doubles" s__law_no_doubles) (F_law : Fu K mg "law" s_law) : Cal P w K mg base 11 "law" s_law ["script"] m_law := by
  have C_is_whole := ok_is_whole (P := P) (w := w) (base := base) fr F_is_whole
  have C_is_count := ok_is_count (P := P) (w := w) (base := base) fr F_is_count C_is_whole
  have C_check_number := ok_check_number (P := P) (w := w) (base := base) fr F_check_number C_is_count
  have C_common_of := ok_common_of (P := P) (w := w) (base := base) fr F_common_of
  have C_is_fraction := ok_is_fraction (P := P) (w := w) (base := base) fr F_is_fraction C_is_whole C_common_of
  have C_lowest_of := ok_lowest_of (P := P) (w := w) (base := base) fr F_lowest_of C_common_of
  have C_is_poly := ok_is_poly (P := P) (w := w) (base := base) fr F_is_poly C_is_whole
  have C_cut_poly := ok_cut_poly (P := P) (w := w) (base := base) fr F_cut_poly
  have C_worth_in := ok_worth_in (P := P) (w := w) (base := base) fr F_worth_in
  have C_power_in := ok_power_in (P := P) (w := w) (base := base) fr F_power_in
  have C_is_double := ok_is_double (P := P) (w := w) (base := base) fr F_is_double C_is_poly
  have C_worths_of_parts := ok_worths_of_parts (P := P) (w := w) (base := base) fr F_worths_of_parts C_cut_poly C_worth_in
  have C_is_line_told := ok_is_line_told (P := P) (w := w) (base := base) fr F_is_line_told C_is_whole
  have C_is_rising_start := ok_is_rising_start (P := P) (w := w) (base := base) fr F_is_rising_start C_is_fraction
  have C_is_factor := ok_is_factor (P := P) (w := w) (base := base) fr F_is_factor C_is_rising_start C_is_line_told C_is_whole
  have C_are_factors := ok_are_factors (P := P) (w := w) (base := base) fr F_are_factors C_is_factor
  have C_rising_parts := ok_rising_parts (P := P) (w := w) (base := base) fr F_rising_parts
  have C_line_worth := ok_line_worth (P := P) (w := w) (base := base) fr F_line_worth
  have C_whole_lines := ok_whole_lines (P := P) (w := w) (base := base) fr F_whole_lines
  have C_span_where := ok_span_where (P := P) (w := w) (base := base) fr F_span_where
  have C_is_cut := ok_is_cut (P := P) (w := w) (base := base) fr F_is_cut C_whole_lines C_line_worth
  have C_factors_worth := ok_factors_worth (P := P) (w := w) (base := base) fr F_factors_worth C_rising_parts C_line_worth
  have C_power_parts := ok_power_parts (P := P) (w := w) (base := base) fr F_power_parts C_power_in
  have C_has_double_form := ok_has_double_form (P := P) (w := w) (base := base) fr F_has_double_form C_is_double C_are_factors C_is_fraction
  have C_steps_of := ok_steps_of (P := P) (w := w) (base := base) fr F_steps_of C_common_of
  have C_by_steps := ok_by_steps (P := P) (w := w) (base := base) fr F_by_steps
  have C_last_without := ok_last_without (P := P) (w := w) (base := base) fr F_last_without C_steps_of C_span_where C_by_steps
  have C_last_missing := ok_last_missing (P := P) (w := w) (base := base) fr F_last_missing C_last_without
  have C_is_sound_everywhere := ok_is_sound_everywhere (P := P) (w := w) (base := base) fr F_is_sound_everywhere C_last_missing C_whole_lines
  have C_check_double_term := ok_check_double_term (P := P) (w := w) (base := base) fr F_check_double_term C_has_double_form
  have C_is_there := ok_is_there (P := P) (w := w) (base := base) fr F_is_there C_whole_lines C_line_worth
  have C_double_value_in := ok_double_value_in (P := P) (w := w) (base := base) fr F_double_value_in C_is_cut C_factors_worth C_power_parts C_lowest_of C_worth_in C_worths_of_parts
  have C_double_value := ok_double_value (P := P) (w := w) (base := base) fr F_double_value C_check_double_term C_check_number C_is_whole C_is_cut C_is_there C_double_value_in
  have C_is_sound := ok_is_sound (P := P) (w := w) (base := base) fr F_is_sound C_check_double_term C_is_sound_everywhere
  have C_is_bounded_in := ok_is_bounded_in (P := P) (w := w) (base := base) fr F_is_bounded_in C_whole_lines
  have C_is_bounded := ok_is_bounded (P := P) (w := w) (base := base) fr F_is_bounded C_check_double_term C_is_bounded_in
  have C_span_of_k := ok_span_of_k (P := P) (w := w) (base := base) fr F_span_of_k C_whole_lines
  have C_bounds_of := ok_bounds_of (P := P) (w := w) (base := base) fr F_bounds_of C_check_double_term C_is_bounded_in C_check_number C_span_of_k
  have C__law_hash := ok__law_hash (P := P) (w := w) (base := base) fr F__law_hash
  have C__law_cell := ok__law_cell (P := P) (w := w) (base := base) fr F__law_cell
  have C__law_random := ok__law_random (P := P) (w := w) (base := base) fr F__law_random C__law_hash
  have C__law_generator := ok__law_generator (P := P) (w := w) (base := base) fr F__law_generator C__law_cell
  have C__law_pick := ok__law_pick (P := P) (w := w) (base := base) fr F__law_pick C__law_random
  have C__law_cut := ok__law_cut (P := P) (w := w) (base := base) fr F__law_cut
  have C__law_lines := ok__law_lines (P := P) (w := w) (base := base) fr F__law_lines
  have C__law_start := ok__law_start (P := P) (w := w) (base := base) fr F__law_start C__law_pick
  have C__law_base := ok__law_base (P := P) (w := w) (base := base) fr F__law_base C__law_pick
  have C__law_poly := ok__law_poly (P := P) (w := w) (base := base) fr F__law_poly C__law_cut C__law_random
  have C__law_raw_factor := ok__law_raw_factor (P := P) (w := w) (base := base) fr F__law_raw_factor C__law_random C__law_pick C__law_start
  have C__law_double_poly := ok__law_double_poly (P := P) (w := w) (base := base) fr F__law_double_poly C__law_random C__law_poly
  have C__law_rims := ok__law_rims (P := P) (w := w) (base := base) fr F__law_rims C__law_random C__law_pick
  have C__law_raw_double := ok__law_raw_double (P := P) (w := w) (base := base) fr F__law_raw_double C__law_rims C__law_random C__law_raw_factor C__law_base C__law_double_poly
  have C__law_span := ok__law_span (P := P) (w := w) (base := base) fr F__law_span
  have C__law_is_some := ok__law_is_some (P := P) (w := w) (base := base) fr F__law_is_some C__law_span
  have C__law_lacks := ok__law_lacks (P := P) (w := w) (base := base) fr F__law_lacks C__law_is_some
  have C__law_sound_double := ok__law_sound_double (P := P) (w := w) (base := base) fr F__law_sound_double C__law_lines C__law_lacks
  have C__law_caught := ok__law_caught (P := P) (w := w) (base := base) fr F__law_caught C_bounds_of C_is_bounded C_is_sound
  have C__law_right := ok__law_right (P := P) (w := w) (base := base) fr F__law_right C__law_raw_double C__law_lines C__law_sound_double C_is_sound C_is_bounded C__law_caught C__law_random C__law_span C_bounds_of C_double_value
  have C__law_no_doubles := ok__law_no_doubles (P := P) (w := w) (base := base) fr F__law_no_doubles
  exact ok_law fr F_law C__law_generator C__law_right C__law_no_doubles C__law_caught C_is_sound C_is_bounded C_bounds_of
end
def d_is_whole : He.DefD := ⟨("is_whole", none), "is_whole", "is_whole", defArgs s_is_whole, defBody s_is_whole, defScope s_is_whole, [], []⟩
def d_is_count : He.DefD := ⟨("is_count", none), "is_count", "is_count", defArgs s_is_count, defBody s_is_count, defScope s_is_count, [], []⟩
def d_check_number : He.DefD := ⟨("check_number", none), "check_number", "check_number", defArgs s_check_number, defBody s_check_number, defScope s_check_number, [], []⟩
def d_common_of : He.DefD := ⟨("common_of", none), "common_of", "common_of", defArgs s_common_of, defBody s_common_of, defScope s_common_of, [], []⟩
def d_is_fraction : He.DefD := ⟨("is_fraction", none), "is_fraction", "is_fraction", defArgs s_is_fraction, defBody s_is_fraction, defScope s_is_fraction, [], []⟩
def d_lowest_of : He.DefD := ⟨("lowest_of", none), "lowest_of", "lowest_of", defArgs s_lowest_of, defBody s_lowest_of, defScope s_lowest_of, [], []⟩
def d_is_poly : He.DefD := ⟨("is_poly", none), "is_poly", "is_poly", defArgs s_is_poly, defBody s_is_poly, defScope s_is_poly, [], []⟩
def d_cut_poly : He.DefD := ⟨("cut_poly", none), "cut_poly", "cut_poly", defArgs s_cut_poly, defBody s_cut_poly, defScope s_cut_poly, [], []⟩
def d_worth_in : He.DefD := ⟨("worth_in", none), "worth_in", "worth_in", defArgs s_worth_in, defBody s_worth_in, defScope s_worth_in, [], []⟩
def d_power_in : He.DefD := ⟨("power_in", none), "power_in", "power_in", defArgs s_power_in, defBody s_power_in, defScope s_power_in, [], []⟩
def d_is_double : He.DefD := ⟨("is_double", none), "is_double", "is_double", defArgs s_is_double, defBody s_is_double, defScope s_is_double, [], []⟩
def d_worths_of_parts : He.DefD := ⟨("worths_of_parts", none), "worths_of_parts", "worths_of_parts", defArgs s_worths_of_parts, defBody s_worths_of_parts, defScope s_worths_of_parts, [], []⟩
def d_is_line_told : He.DefD := ⟨("is_line_told", none), "is_line_told", "is_line_told", defArgs s_is_line_told, defBody s_is_line_told, defScope s_is_line_told, [], []⟩
def d_is_rising_start : He.DefD := ⟨("is_rising_start", none), "is_rising_start", "is_rising_start", defArgs s_is_rising_start, defBody s_is_rising_start, defScope s_is_rising_start, [], []⟩
def d_is_factor : He.DefD := ⟨("is_factor", none), "is_factor", "is_factor", defArgs s_is_factor, defBody s_is_factor, defScope s_is_factor, [], []⟩
def d_are_factors : He.DefD := ⟨("are_factors", none), "are_factors", "are_factors", defArgs s_are_factors, defBody s_are_factors, defScope s_are_factors, [], []⟩
def d_rising_parts : He.DefD := ⟨("rising_parts", none), "rising_parts", "rising_parts", defArgs s_rising_parts, defBody s_rising_parts, defScope s_rising_parts, [], []⟩
def d_line_worth : He.DefD := ⟨("line_worth", none), "line_worth", "line_worth", defArgs s_line_worth, defBody s_line_worth, defScope s_line_worth, [], []⟩
def d_whole_lines : He.DefD := ⟨("whole_lines", none), "whole_lines", "whole_lines", defArgs s_whole_lines, defBody s_whole_lines, defScope s_whole_lines, [], []⟩
def d_span_where : He.DefD := ⟨("span_where", none), "span_where", "span_where", defArgs s_span_where, defBody s_span_where, defScope s_span_where, [], []⟩
def d_is_cut : He.DefD := ⟨("is_cut", none), "is_cut", "is_cut", defArgs s_is_cut, defBody s_is_cut, defScope s_is_cut, [], []⟩
def d_factors_worth : He.DefD := ⟨("factors_worth", none), "factors_worth", "factors_worth", defArgs s_factors_worth, defBody s_factors_worth, defScope s_factors_worth, [], []⟩
def d_power_parts : He.DefD := ⟨("power_parts", none), "power_parts", "power_parts", defArgs s_power_parts, defBody s_power_parts, defScope s_power_parts, [], []⟩
def d_has_double_form : He.DefD := ⟨("has_double_form", none), "has_double_form", "has_double_form", defArgs s_has_double_form, defBody s_has_double_form, defScope s_has_double_form, [], []⟩
def d_steps_of : He.DefD := ⟨("steps_of", none), "steps_of", "steps_of", defArgs s_steps_of, defBody s_steps_of, defScope s_steps_of, [], []⟩
def d_by_steps : He.DefD := ⟨("by_steps", none), "by_steps", "by_steps", defArgs s_by_steps, defBody s_by_steps, defScope s_by_steps, [], []⟩
def d_last_without : He.DefD := ⟨("last_without", none), "last_without", "last_without", defArgs s_last_without, defBody s_last_without, defScope s_last_without, [], []⟩
def d_last_missing : He.DefD := ⟨("last_missing", none), "last_missing", "last_missing", defArgs s_last_missing, defBody s_last_missing, defScope s_last_missing, [], []⟩
def d_is_sound_everywhere : He.DefD := ⟨("is_sound_everywhere", none), "is_sound_everywhere", "is_sound_everywhere", defArgs s_is_sound_everywhere, defBody s_is_sound_everywhere, defScope s_is_sound_everywhere, [], []⟩
def d_check_double_term : He.DefD := ⟨("check_double_term", none), "check_double_term", "check_double_term", defArgs s_check_double_term, defBody s_check_double_term, defScope s_check_double_term, [], []⟩
def d_is_there : He.DefD := ⟨("is_there", none), "is_there", "is_there", defArgs s_is_there, defBody s_is_there, defScope s_is_there, [], []⟩
def d_double_value_in : He.DefD := ⟨("double_value_in", none), "double_value_in", "double_value_in", defArgs s_double_value_in, defBody s_double_value_in, defScope s_double_value_in, [], []⟩
def d_double_value : He.DefD := ⟨("double_value", none), "double_value", "double_value", defArgs s_double_value, defBody s_double_value, defScope s_double_value, [], []⟩
def d_is_sound : He.DefD := ⟨("is_sound", none), "is_sound", "is_sound", defArgs s_is_sound, defBody s_is_sound, defScope s_is_sound, [], []⟩
def d_is_bounded_in : He.DefD := ⟨("is_bounded_in", none), "is_bounded_in", "is_bounded_in", defArgs s_is_bounded_in, defBody s_is_bounded_in, defScope s_is_bounded_in, [], []⟩
def d_is_bounded : He.DefD := ⟨("is_bounded", none), "is_bounded", "is_bounded", defArgs s_is_bounded, defBody s_is_bounded, defScope s_is_bounded, [], []⟩
def d_span_of_k : He.DefD := ⟨("span_of_k", none), "span_of_k", "span_of_k", defArgs s_span_of_k, defBody s_span_of_k, defScope s_span_of_k, [], []⟩
def d_bounds_of : He.DefD := ⟨("bounds_of", none), "bounds_of", "bounds_of", defArgs s_bounds_of, defBody s_bounds_of, defScope s_bounds_of, [], []⟩
def d__law_hash : He.DefD := ⟨("_law_hash", none), "_law_hash", "_law_hash", defArgs s__law_hash, defBody s__law_hash, defScope s__law_hash, [], []⟩
def d__law_cell : He.DefD := ⟨("_law_cell", none), "_law_cell", "_law_cell", defArgs s__law_cell, defBody s__law_cell, defScope s__law_cell, [], []⟩
def d__law_random : He.DefD := ⟨("_law_random", none), "_law_random", "_law_random", defArgs s__law_random, defBody s__law_random, defScope s__law_random, [], []⟩
def d__law_generator : He.DefD := ⟨("_law_generator", none), "_law_generator", "_law_generator", defArgs s__law_generator, defBody s__law_generator, defScope s__law_generator, [], []⟩
def d__law_pick : He.DefD := ⟨("_law_pick", none), "_law_pick", "_law_pick", defArgs s__law_pick, defBody s__law_pick, defScope s__law_pick, [], []⟩
def d__law_cut : He.DefD := ⟨("_law_cut", none), "_law_cut", "_law_cut", defArgs s__law_cut, defBody s__law_cut, defScope s__law_cut, [], []⟩
def d__law_lines : He.DefD := ⟨("_law_lines", none), "_law_lines", "_law_lines", defArgs s__law_lines, defBody s__law_lines, defScope s__law_lines, [], []⟩
def d__law_start : He.DefD := ⟨("_law_start", none), "_law_start", "_law_start", defArgs s__law_start, defBody s__law_start, defScope s__law_start, [], []⟩
def d__law_base : He.DefD := ⟨("_law_base", none), "_law_base", "_law_base", defArgs s__law_base, defBody s__law_base, defScope s__law_base, [], []⟩
def d__law_poly : He.DefD := ⟨("_law_poly", none), "_law_poly", "_law_poly", defArgs s__law_poly, defBody s__law_poly, defScope s__law_poly, [], []⟩
def d__law_raw_factor : He.DefD := ⟨("_law_raw_factor", none), "_law_raw_factor", "_law_raw_factor", defArgs s__law_raw_factor, defBody s__law_raw_factor, defScope s__law_raw_factor, [], []⟩
def d__law_double_poly : He.DefD := ⟨("_law_double_poly", none), "_law_double_poly", "_law_double_poly", defArgs s__law_double_poly, defBody s__law_double_poly, defScope s__law_double_poly, [], []⟩
def d__law_rims : He.DefD := ⟨("_law_rims", none), "_law_rims", "_law_rims", defArgs s__law_rims, defBody s__law_rims, defScope s__law_rims, [], []⟩
def d__law_raw_double : He.DefD := ⟨("_law_raw_double", none), "_law_raw_double", "_law_raw_double", defArgs s__law_raw_double, defBody s__law_raw_double, defScope s__law_raw_double, [], []⟩
def d__law_span : He.DefD := ⟨("_law_span", none), "_law_span", "_law_span", defArgs s__law_span, defBody s__law_span, defScope s__law_span, [], []⟩
def d__law_is_some : He.DefD := ⟨("_law_is_some", none), "_law_is_some", "_law_is_some", defArgs s__law_is_some, defBody s__law_is_some, defScope s__law_is_some, [], []⟩
def d__law_lacks : He.DefD := ⟨("_law_lacks", none), "_law_lacks", "_law_lacks", defArgs s__law_lacks, defBody s__law_lacks, defScope s__law_lacks, [], []⟩
def d__law_sound_double : He.DefD := ⟨("_law_sound_double", none), "_law_sound_double", "_law_sound_double", defArgs s__law_sound_double, defBody s__law_sound_double, defScope s__law_sound_double, [], []⟩
def d__law_caught : He.DefD := ⟨("_law_caught", none), "_law_caught", "_law_caught", defArgs s__law_caught, defBody s__law_caught, defScope s__law_caught, [], []⟩
def d__law_right : He.DefD := ⟨("_law_right", none), "_law_right", "_law_right", defArgs s__law_right, defBody s__law_right, defScope s__law_right, [], []⟩
def d__law_no_doubles : He.DefD := ⟨("_law_no_doubles", none), "_law_no_doubles", "_law_no_doubles", defArgs s__law_no_doubles, defBody s__law_no_doubles, defScope s__law_no_doubles, [], []⟩
def d_law : He.DefD := ⟨("law", none), "law", "law", defArgs s_law, defBody s_law, defScope s_law, [], []⟩
def fn : List He.DefD := [d_is_whole, d_is_count, d_check_number, d_common_of, d_is_fraction, d_lowest_of, d_is_poly, d_cut_poly, d_worth_in, d_power_in, d_is_double, d_worths_of_parts, d_is_line_told, d_is_rising_start, d_is_factor, d_are_factors, d_rising_parts, d_line_worth, d_whole_lines, d_span_where, d_is_cut, d_factors_worth, d_power_parts, d_has_double_form, d_steps_of, d_by_steps, d_last_without, d_last_missing, d_is_sound_everywhere, d_check_double_term, d_is_there, d_double_value_in, d_double_value, d_is_sound, d_is_bounded_in, d_is_bounded, d_span_of_k, d_bounds_of, d__law_hash, d__law_cell, d__law_random, d__law_generator, d__law_pick, d__law_cut, d__law_lines, d__law_start, d__law_base, d__law_poly, d__law_raw_factor, d__law_double_poly, d__law_rims, d__law_raw_double, d__law_span, d__law_is_some, d__law_lacks, d__law_sound_double, d__law_caught, d__law_right, d__law_no_doubles, d_law]
def fa : List He.Fa := [.glo "is_whole", .glo "is_count", .glo "check_number", .glo "common_of", .glo "is_fraction", .glo "lowest_of", .glo "is_poly", .glo "cut_poly", .glo "worth_in", .glo "power_in", .glo "is_double", .glo "worths_of_parts", .glo "is_line_told", .glo "is_rising_start", .glo "is_factor", .glo "are_factors", .glo "rising_parts", .glo "line_worth", .glo "whole_lines", .glo "span_where", .glo "is_cut", .glo "factors_worth", .glo "power_parts", .glo "has_double_form", .glo "steps_of", .glo "by_steps", .glo "last_without", .glo "last_missing", .glo "is_sound_everywhere", .glo "check_double_term", .glo "is_there", .glo "double_value_in", .glo "double_value", .glo "is_sound", .glo "is_bounded_in", .glo "is_bounded", .glo "span_of_k", .glo "bounds_of", .glo "_law_hash", .glo "_law_cell", .glo "_law_random", .glo "_law_generator", .glo "_law_pick", .glo "_law_cut", .glo "_law_lines", .glo "_law_start", .glo "_law_base", .glo "_law_poly", .glo "_law_raw_factor", .glo "_law_double_poly", .glo "_law_rims", .glo "_law_raw_double", .glo "_law_span", .glo "_law_is_some", .glo "_law_lacks", .glo "_law_sound_double", .glo "_law_caught", .glo "_law_right", .glo "_law_no_doubles", .glo "law", .free "abs", .free "all", .free "any", .free "bool", .free "int", .free "isinstance", .free "len", .free "list", .free "max", .free "min", .free "range", .free "repr", .free "sorted", .free "str", .free "sum", .free "super", .free "tuple", .free "zip", .str "WORD_DOUBLE" "double", .glo "InvalidNumber", .glo "InvalidSum", .glo "SameError", .glo "ONE"]
def i_SameError : HX.IniD := ⟨"SameError", "SameError.__init__", defArgs (clsInit (top 1)), defBody (clsInit (top 1)), defScope (clsInit (top 1)), (PySem.Challenge.rw_eversame_k47_whole_sound_and_bounded).prog.main.file⟩
def ini : List HX.IniD := [i_SameError]
def xs : List (PySem.W.Frag → Bool) := [HX.clsB "InvalidNumber", HX.clsB "InvalidSum", HX.clsB "SameError", HX.baseB "SameError", HX.raB "SameError" "InvalidNumber", HX.raB "SameError" "InvalidSum", fun K => He.tupB K "ONE" [.int 1, .int 1], HX.fnvB "bounds_of", HX.fnvB "is_bounded", HX.fnvB "is_sound", HX.sysB, HX.opB]
abbrev R : PySem.W.OpenRow := PySem.W.OpenLaw.row PySem.Challenge.rw_eversame_k47_whole_sound_and_bounded
abbrev hk : PySem.W.Hook := HX.hookX 4 fa fn xs ini
def ob (s : PySem.W.SharedT) : HX.AlX := HX.obsXG 4 fa fn xs ini (HandSHeadRun.getT s)
theorem ob_eq (s : PySem.W.SharedT) : ob s = hk.obs s.abs := HX.obsXG_eq (HandSHeadRun.getT_eq s)
def loose : List PySem.Str := [("__name__" : PySem.Str), ("SameError" : PySem.Str), ("InvalidNumber" : PySem.Str), ("InvalidSum" : PySem.Str), ("is_whole" : PySem.Str), ("is_count" : PySem.Str), ("check_number" : PySem.Str), ("common_of" : PySem.Str), ("is_fraction" : PySem.Str), ("lowest_of" : PySem.Str), ("is_poly" : PySem.Str), ("cut_poly" : PySem.Str), ("worth_in" : PySem.Str), ("power_in" : PySem.Str), ("is_double" : PySem.Str), ("worths_of_parts" : PySem.Str), ("is_line_told" : PySem.Str), ("ONE" : PySem.Str), ("is_rising_start" : PySem.Str), ("is_factor" : PySem.Str), ("are_factors" : PySem.Str), ("rising_parts" : PySem.Str), ("line_worth" : PySem.Str), ("whole_lines" : PySem.Str), ("span_where" : PySem.Str), ("is_cut" : PySem.Str), ("factors_worth" : PySem.Str), ("power_parts" : PySem.Str), ("WORD_DOUBLE" : PySem.Str), ("has_double_form" : PySem.Str), ("steps_of" : PySem.Str), ("by_steps" : PySem.Str), ("last_without" : PySem.Str), ("last_missing" : PySem.Str), ("is_sound_everywhere" : PySem.Str), ("check_double_term" : PySem.Str), ("is_there" : PySem.Str), ("double_value_in" : PySem.Str), ("double_value" : PySem.Str), ("is_sound" : PySem.Str), ("is_bounded_in" : PySem.Str), ("is_bounded" : PySem.Str), ("span_of_k" : PySem.Str), ("bounds_of" : PySem.Str), ("_law_hash" : PySem.Str), ("_law_cell" : PySem.Str), ("_law_random" : PySem.Str), ("_law_generator" : PySem.Str), ("_law_pick" : PySem.Str), ("_law_cut" : PySem.Str), ("_law_lines" : PySem.Str), ("_law_start" : PySem.Str), ("_law_base" : PySem.Str), ("_law_poly" : PySem.Str), ("_law_raw_factor" : PySem.Str), ("_law_double_poly" : PySem.Str), ("_law_rims" : PySem.Str), ("_law_raw_double" : PySem.Str), ("_law_span" : PySem.Str), ("_law_is_some" : PySem.Str), ("_law_lacks" : PySem.Str), ("_law_sound_double" : PySem.Str), ("_law_caught" : PySem.Str), ("_law_right" : PySem.Str), ("_law_no_doubles" : PySem.Str)]
theorem run (w : World) : HandSHeadRun.RunEq R (PySem.W.view R.prog [73]) hk ob 8000 loose w := by
  intro os
  kernel_rfl
theorem facts {w : World} {K : PySem.W.Frag} {h : Heap} {mg : Str → Option Value} (X : K.In h) (G : h.Ns mainGlobals mg) (c : HX.SaysX fa fn xs ini K) : ∀ base : Heap, Cal (PySem.Challenge.rw_eversame_k47_whole_sound_and_bounded).prog w K mg base 11 "law" s_law ["script"] m_law := fun base => by
  have F_is_whole : Fu K mg "is_whole" s_is_whole := by
    obtain ⟨fd, F⟩ := c.d.def_ 0 (d := d_is_whole) rfl
    exact ⟨_, fd, F, He.glo_ok X G (c.d.fact 0 (f := .glo "is_whole") rfl)⟩
  have F_is_count : Fu K mg "is_count" s_is_count := by
    obtain ⟨fd, F⟩ := c.d.def_ 1 (d := d_is_count) rfl
    exact ⟨_, fd, F, He.glo_ok X G (c.d.fact 1 (f := .glo "is_count") rfl)⟩
  have F_check_number : Fu K mg "check_number" s_check_number := by
    obtain ⟨fd, F⟩ := c.d.def_ 2 (d := d_check_number) rfl
    exact ⟨_, fd, F, He.glo_ok X G (c.d.fact 2 (f := .glo "check_number") rfl)⟩
  have F_common_of : Fu K mg "common_of" s_common_of := by
    obtain ⟨fd, F⟩ := c.d.def_ 3 (d := d_common_of) rfl
    exact ⟨_, fd, F, He.glo_ok X G (c.d.fact 3 (f := .glo "common_of") rfl)⟩
  have F_is_fraction : Fu K mg "is_fraction" s_is_fraction := by
    obtain ⟨fd, F⟩ := c.d.def_ 4 (d := d_is_fraction) rfl
    exact ⟨_, fd, F, He.glo_ok X G (c.d.fact 4 (f := .glo "is_fraction") rfl)⟩
  have F_lowest_of : Fu K mg "lowest_of" s_lowest_of := by
    obtain ⟨fd, F⟩ := c.d.def_ 5 (d := d_lowest_of) rfl
    exact ⟨_, fd, F, He.glo_ok X G (c.d.fact 5 (f := .glo "lowest_of") rfl)⟩
  have F_is_poly : Fu K mg "is_poly" s_is_poly := by
    obtain ⟨fd, F⟩ := c.d.def_ 6 (d := d_is_poly) rfl
    exact ⟨_, fd, F, He.glo_ok X G (c.d.fact 6 (f := .glo "is_poly") rfl)⟩
  have F_cut_poly : Fu K mg "cut_poly" s_cut_poly := by
    obtain ⟨fd, F⟩ := c.d.def_ 7 (d := d_cut_poly) rfl
    exact ⟨_, fd, F, He.glo_ok X G (c.d.fact 7 (f := .glo "cut_poly") rfl)⟩
  have F_worth_in : Fu K mg "worth_in" s_worth_in := by
    obtain ⟨fd, F⟩ := c.d.def_ 8 (d := d_worth_in) rfl
    exact ⟨_, fd, F, He.glo_ok X G (c.d.fact 8 (f := .glo "worth_in") rfl)⟩
  have F_power_in : Fu K mg "power_in" s_power_in := by
    obtain ⟨fd, F⟩ := c.d.def_ 9 (d := d_power_in) rfl
    exact ⟨_, fd, F, He.glo_ok X G (c.d.fact 9 (f := .glo "power_in") rfl)⟩
  have F_is_double : Fu K mg "is_double" s_is_double := by
    obtain ⟨fd, F⟩ := c.d.def_ 10 (d := d_is_double) rfl
    exact ⟨_, fd, F, He.glo_ok X G (c.d.fact 10 (f := .glo "is_double") rfl)⟩
  have F_worths_of_parts : Fu K mg "worths_of_parts" s_worths_of_parts := by
    obtain ⟨fd, F⟩ := c.d.def_ 11 (d := d_worths_of_parts) rfl
    exact ⟨_, fd, F, He.glo_ok X G (c.d.fact 11 (f := .glo "worths_of_parts") rfl)⟩
  have F_is_line_told : Fu K mg "is_line_told" s_is_line_told := by
    obtain ⟨fd, F⟩ := c.d.def_ 12 (d := d_is_line_told) rfl
    exact ⟨_, fd, F, He.glo_ok X G (c.d.fact 12 (f := .glo "is_line_told") rfl)⟩
  have F_is_rising_start : Fu K mg "is_rising_start" s_is_rising_start := by
    obtain ⟨fd, F⟩ := c.d.def_ 13 (d := d_is_rising_start) rfl
    exact ⟨_, fd, F, He.glo_ok X G (c.d.fact 13 (f := .glo "is_rising_start") rfl)⟩
  have F_is_factor : Fu K mg "is_factor" s_is_factor := by
    obtain ⟨fd, F⟩ := c.d.def_ 14 (d := d_is_factor) rfl
    exact ⟨_, fd, F, He.glo_ok X G (c.d.fact 14 (f := .glo "is_factor") rfl)⟩
  have F_are_factors : Fu K mg "are_factors" s_are_factors := by
    obtain ⟨fd, F⟩ := c.d.def_ 15 (d := d_are_factors) rfl
    exact ⟨_, fd, F, He.glo_ok X G (c.d.fact 15 (f := .glo "are_factors") rfl)⟩
  have F_rising_parts : Fu K mg "rising_parts" s_rising_parts := by
    obtain ⟨fd, F⟩ := c.d.def_ 16 (d := d_rising_parts) rfl
    exact ⟨_, fd, F, He.glo_ok X G (c.d.fact 16 (f := .glo "rising_parts") rfl)⟩
  have F_line_worth : Fu K mg "line_worth" s_line_worth := by
    obtain ⟨fd, F⟩ := c.d.def_ 17 (d := d_line_worth) rfl
    exact ⟨_, fd, F, He.glo_ok X G (c.d.fact 17 (f := .glo "line_worth") rfl)⟩
  have F_whole_lines : Fu K mg "whole_lines" s_whole_lines := by
    obtain ⟨fd, F⟩ := c.d.def_ 18 (d := d_whole_lines) rfl
    exact ⟨_, fd, F, He.glo_ok X G (c.d.fact 18 (f := .glo "whole_lines") rfl)⟩
  have F_span_where : Fu K mg "span_where" s_span_where := by
    obtain ⟨fd, F⟩ := c.d.def_ 19 (d := d_span_where) rfl
    exact ⟨_, fd, F, He.glo_ok X G (c.d.fact 19 (f := .glo "span_where") rfl)⟩
  have F_is_cut : Fu K mg "is_cut" s_is_cut := by
    obtain ⟨fd, F⟩ := c.d.def_ 20 (d := d_is_cut) rfl
    exact ⟨_, fd, F, He.glo_ok X G (c.d.fact 20 (f := .glo "is_cut") rfl)⟩
  have F_factors_worth : Fu K mg "factors_worth" s_factors_worth := by
    obtain ⟨fd, F⟩ := c.d.def_ 21 (d := d_factors_worth) rfl
    exact ⟨_, fd, F, He.glo_ok X G (c.d.fact 21 (f := .glo "factors_worth") rfl)⟩
  have F_power_parts : Fu K mg "power_parts" s_power_parts := by
    obtain ⟨fd, F⟩ := c.d.def_ 22 (d := d_power_parts) rfl
    exact ⟨_, fd, F, He.glo_ok X G (c.d.fact 22 (f := .glo "power_parts") rfl)⟩
  have F_has_double_form : Fu K mg "has_double_form" s_has_double_form := by
    obtain ⟨fd, F⟩ := c.d.def_ 23 (d := d_has_double_form) rfl
    exact ⟨_, fd, F, He.glo_ok X G (c.d.fact 23 (f := .glo "has_double_form") rfl)⟩
  have F_steps_of : Fu K mg "steps_of" s_steps_of := by
    obtain ⟨fd, F⟩ := c.d.def_ 24 (d := d_steps_of) rfl
    exact ⟨_, fd, F, He.glo_ok X G (c.d.fact 24 (f := .glo "steps_of") rfl)⟩
  have F_by_steps : Fu K mg "by_steps" s_by_steps := by
    obtain ⟨fd, F⟩ := c.d.def_ 25 (d := d_by_steps) rfl
    exact ⟨_, fd, F, He.glo_ok X G (c.d.fact 25 (f := .glo "by_steps") rfl)⟩
  have F_last_without : Fu K mg "last_without" s_last_without := by
    obtain ⟨fd, F⟩ := c.d.def_ 26 (d := d_last_without) rfl
    exact ⟨_, fd, F, He.glo_ok X G (c.d.fact 26 (f := .glo "last_without") rfl)⟩
  have F_last_missing : Fu K mg "last_missing" s_last_missing := by
    obtain ⟨fd, F⟩ := c.d.def_ 27 (d := d_last_missing) rfl
    exact ⟨_, fd, F, He.glo_ok X G (c.d.fact 27 (f := .glo "last_missing") rfl)⟩
  have F_is_sound_everywhere : Fu K mg "is_sound_everywhere" s_is_sound_everywhere := by
    obtain ⟨fd, F⟩ := c.d.def_ 28 (d := d_is_sound_everywhere) rfl
    exact ⟨_, fd, F, He.glo_ok X G (c.d.fact 28 (f := .glo "is_sound_everywhere") rfl)⟩
  have F_check_double_term : Fu K mg "check_double_term" s_check_double_term := by
    obtain ⟨fd, F⟩ := c.d.def_ 29 (d := d_check_double_term) rfl
    exact ⟨_, fd, F, He.glo_ok X G (c.d.fact 29 (f := .glo "check_double_term") rfl)⟩
  have F_is_there : Fu K mg "is_there" s_is_there := by
    obtain ⟨fd, F⟩ := c.d.def_ 30 (d := d_is_there) rfl
    exact ⟨_, fd, F, He.glo_ok X G (c.d.fact 30 (f := .glo "is_there") rfl)⟩
  have F_double_value_in : Fu K mg "double_value_in" s_double_value_in := by
    obtain ⟨fd, F⟩ := c.d.def_ 31 (d := d_double_value_in) rfl
    exact ⟨_, fd, F, He.glo_ok X G (c.d.fact 31 (f := .glo "double_value_in") rfl)⟩
  have F_double_value : Fu K mg "double_value" s_double_value := by
    obtain ⟨fd, F⟩ := c.d.def_ 32 (d := d_double_value) rfl
    exact ⟨_, fd, F, He.glo_ok X G (c.d.fact 32 (f := .glo "double_value") rfl)⟩
  have F_is_sound : Fu K mg "is_sound" s_is_sound := by
    obtain ⟨fd, F⟩ := c.d.def_ 33 (d := d_is_sound) rfl
    exact ⟨_, fd, F, He.glo_ok X G (c.d.fact 33 (f := .glo "is_sound") rfl)⟩
  have F_is_bounded_in : Fu K mg "is_bounded_in" s_is_bounded_in := by
    obtain ⟨fd, F⟩ := c.d.def_ 34 (d := d_is_bounded_in) rfl
    exact ⟨_, fd, F, He.glo_ok X G (c.d.fact 34 (f := .glo "is_bounded_in") rfl)⟩
  have F_is_bounded : Fu K mg "is_bounded" s_is_bounded := by
    obtain ⟨fd, F⟩ := c.d.def_ 35 (d := d_is_bounded) rfl
    exact ⟨_, fd, F, He.glo_ok X G (c.d.fact 35 (f := .glo "is_bounded") rfl)⟩
  have F_span_of_k : Fu K mg "span_of_k" s_span_of_k := by
    obtain ⟨fd, F⟩ := c.d.def_ 36 (d := d_span_of_k) rfl
    exact ⟨_, fd, F, He.glo_ok X G (c.d.fact 36 (f := .glo "span_of_k") rfl)⟩
  have F_bounds_of : Fu K mg "bounds_of" s_bounds_of := by
    obtain ⟨fd, F⟩ := c.d.def_ 37 (d := d_bounds_of) rfl
    exact ⟨_, fd, F, He.glo_ok X G (c.d.fact 37 (f := .glo "bounds_of") rfl)⟩
  have F__law_hash : Fu K mg "_law_hash" s__law_hash := by
    obtain ⟨fd, F⟩ := c.d.def_ 38 (d := d__law_hash) rfl
    exact ⟨_, fd, F, He.glo_ok X G (c.d.fact 38 (f := .glo "_law_hash") rfl)⟩
  have F__law_cell : Fu K mg "_law_cell" s__law_cell := by
    obtain ⟨fd, F⟩ := c.d.def_ 39 (d := d__law_cell) rfl
    exact ⟨_, fd, F, He.glo_ok X G (c.d.fact 39 (f := .glo "_law_cell") rfl)⟩
  have F__law_random : Fu K mg "_law_random" s__law_random := by
    obtain ⟨fd, F⟩ := c.d.def_ 40 (d := d__law_random) rfl
    exact ⟨_, fd, F, He.glo_ok X G (c.d.fact 40 (f := .glo "_law_random") rfl)⟩
  have F__law_generator : Fu K mg "_law_generator" s__law_generator := by
    obtain ⟨fd, F⟩ := c.d.def_ 41 (d := d__law_generator) rfl
    exact ⟨_, fd, F, He.glo_ok X G (c.d.fact 41 (f := .glo "_law_generator") rfl)⟩
  have F__law_pick : Fu K mg "_law_pick" s__law_pick := by
    obtain ⟨fd, F⟩ := c.d.def_ 42 (d := d__law_pick) rfl
    exact ⟨_, fd, F, He.glo_ok X G (c.d.fact 42 (f := .glo "_law_pick") rfl)⟩
  have F__law_cut : Fu K mg "_law_cut" s__law_cut := by
    obtain ⟨fd, F⟩ := c.d.def_ 43 (d := d__law_cut) rfl
    exact ⟨_, fd, F, He.glo_ok X G (c.d.fact 43 (f := .glo "_law_cut") rfl)⟩
  have F__law_lines : Fu K mg "_law_lines" s__law_lines := by
    obtain ⟨fd, F⟩ := c.d.def_ 44 (d := d__law_lines) rfl
    exact ⟨_, fd, F, He.glo_ok X G (c.d.fact 44 (f := .glo "_law_lines") rfl)⟩
  have F__law_start : Fu K mg "_law_start" s__law_start := by
    obtain ⟨fd, F⟩ := c.d.def_ 45 (d := d__law_start) rfl
    exact ⟨_, fd, F, He.glo_ok X G (c.d.fact 45 (f := .glo "_law_start") rfl)⟩
  have F__law_base : Fu K mg "_law_base" s__law_base := by
    obtain ⟨fd, F⟩ := c.d.def_ 46 (d := d__law_base) rfl
    exact ⟨_, fd, F, He.glo_ok X G (c.d.fact 46 (f := .glo "_law_base") rfl)⟩
  have F__law_poly : Fu K mg "_law_poly" s__law_poly := by
    obtain ⟨fd, F⟩ := c.d.def_ 47 (d := d__law_poly) rfl
    exact ⟨_, fd, F, He.glo_ok X G (c.d.fact 47 (f := .glo "_law_poly") rfl)⟩
  have F__law_raw_factor : Fu K mg "_law_raw_factor" s__law_raw_factor := by
    obtain ⟨fd, F⟩ := c.d.def_ 48 (d := d__law_raw_factor) rfl
    exact ⟨_, fd, F, He.glo_ok X G (c.d.fact 48 (f := .glo "_law_raw_factor") rfl)⟩
  have F__law_double_poly : Fu K mg "_law_double_poly" s__law_double_poly := by
    obtain ⟨fd, F⟩ := c.d.def_ 49 (d := d__law_double_poly) rfl
    exact ⟨_, fd, F, He.glo_ok X G (c.d.fact 49 (f := .glo "_law_double_poly") rfl)⟩
  have F__law_rims : Fu K mg "_law_rims" s__law_rims := by
    obtain ⟨fd, F⟩ := c.d.def_ 50 (d := d__law_rims) rfl
    exact ⟨_, fd, F, He.glo_ok X G (c.d.fact 50 (f := .glo "_law_rims") rfl)⟩
  have F__law_raw_double : Fu K mg "_law_raw_double" s__law_raw_double := by
    obtain ⟨fd, F⟩ := c.d.def_ 51 (d := d__law_raw_double) rfl
    exact ⟨_, fd, F, He.glo_ok X G (c.d.fact 51 (f := .glo "_law_raw_double") rfl)⟩
  have F__law_span : Fu K mg "_law_span" s__law_span := by
    obtain ⟨fd, F⟩ := c.d.def_ 52 (d := d__law_span) rfl
    exact ⟨_, fd, F, He.glo_ok X G (c.d.fact 52 (f := .glo "_law_span") rfl)⟩
  have F__law_is_some : Fu K mg "_law_is_some" s__law_is_some := by
    obtain ⟨fd, F⟩ := c.d.def_ 53 (d := d__law_is_some) rfl
    exact ⟨_, fd, F, He.glo_ok X G (c.d.fact 53 (f := .glo "_law_is_some") rfl)⟩
  have F__law_lacks : Fu K mg "_law_lacks" s__law_lacks := by
    obtain ⟨fd, F⟩ := c.d.def_ 54 (d := d__law_lacks) rfl
    exact ⟨_, fd, F, He.glo_ok X G (c.d.fact 54 (f := .glo "_law_lacks") rfl)⟩
  have F__law_sound_double : Fu K mg "_law_sound_double" s__law_sound_double := by
    obtain ⟨fd, F⟩ := c.d.def_ 55 (d := d__law_sound_double) rfl
    exact ⟨_, fd, F, He.glo_ok X G (c.d.fact 55 (f := .glo "_law_sound_double") rfl)⟩
  have F__law_caught : Fu K mg "_law_caught" s__law_caught := by
    obtain ⟨fd, F⟩ := c.d.def_ 56 (d := d__law_caught) rfl
    exact ⟨_, fd, F, He.glo_ok X G (c.d.fact 56 (f := .glo "_law_caught") rfl)⟩
  have F__law_right : Fu K mg "_law_right" s__law_right := by
    obtain ⟨fd, F⟩ := c.d.def_ 57 (d := d__law_right) rfl
    exact ⟨_, fd, F, He.glo_ok X G (c.d.fact 57 (f := .glo "_law_right") rfl)⟩
  have F__law_no_doubles : Fu K mg "_law_no_doubles" s__law_no_doubles := by
    obtain ⟨fd, F⟩ := c.d.def_ 58 (d := d__law_no_doubles) rfl
    exact ⟨_, fd, F, He.glo_ok X G (c.d.fact 58 (f := .glo "_law_no_doubles") rfl)⟩
  have F_law : Fu K mg "law" s_law := by
    obtain ⟨fd, F⟩ := c.d.def_ 59 (d := d_law) rfl
    exact ⟨_, fd, F, He.glo_ok X G (c.d.fact 59 (f := .glo "law") rfl)⟩
  have cl_InvalidNumber := HX.clsB_ok X G (c.d.fact 79 (f := .glo "InvalidNumber") rfl) (c.x 0 (x := HX.clsB "InvalidNumber") rfl)
  have cl_InvalidSum := HX.clsB_ok X G (c.d.fact 80 (f := .glo "InvalidSum") rfl) (c.x 1 (x := HX.clsB "InvalidSum") rfl)
  have cl_SameError := HX.clsB_ok X G (c.d.fact 81 (f := .glo "SameError") rfl) (c.x 2 (x := HX.clsB "SameError") rfl)
  have be_SameError := HX.baseB_ok (c.x 3 (x := HX.baseB "SameError") rfl)
  have fsup := He.free_ok X G (c.d.fact 75 (f := .free "super") rfl)
  have txt := c.txt (P := (PySem.Challenge.rw_eversame_k47_whole_sound_and_bounded).prog) 0 (d := i_SameError) rfl rfl rfl rfl rfl rfl (by kernel_rfl) (HX.opB_ok (c.x 11 (x := HX.opB) rfl))
  exact all_ok {f_abs := He.free_ok X G (c.d.fact 60 (f := .free "abs") rfl), f_all := He.free_ok X G (c.d.fact 61 (f := .free "all") rfl), f_any := He.free_ok X G (c.d.fact 62 (f := .free "any") rfl), f_bool := He.free_ok X G (c.d.fact 63 (f := .free "bool") rfl), f_int := He.free_ok X G (c.d.fact 64 (f := .free "int") rfl), f_isinstance := He.free_ok X G (c.d.fact 65 (f := .free "isinstance") rfl), f_len := He.free_ok X G (c.d.fact 66 (f := .free "len") rfl), f_list := He.free_ok X G (c.d.fact 67 (f := .free "list") rfl), f_max := He.free_ok X G (c.d.fact 68 (f := .free "max") rfl), f_min := He.free_ok X G (c.d.fact 69 (f := .free "min") rfl), f_range := He.free_ok X G (c.d.fact 70 (f := .free "range") rfl), f_repr := He.free_ok X G (c.d.fact 71 (f := .free "repr") rfl), f_sorted := He.free_ok X G (c.d.fact 72 (f := .free "sorted") rfl), f_str := He.free_ok X G (c.d.fact 73 (f := .free "str") rfl), f_sum := He.free_ok X G (c.d.fact 74 (f := .free "sum") rfl), f_super := He.free_ok X G (c.d.fact 75 (f := .free "super") rfl), f_tuple := He.free_ok X G (c.d.fact 76 (f := .free "tuple") rfl), f_zip := He.free_ok X G (c.d.fact 77 (f := .free "zip") rfl), c_WORD_DOUBLE := He.str_ok X G (c.d.fact 78 (f := .str "WORD_DOUBLE" "double") rfl), cl_InvalidNumber := ⟨_, cl_InvalidNumber⟩, cl_InvalidSum := ⟨_, cl_InvalidSum⟩, be_SameError := ⟨_, cl_SameError, be_SameError⟩, ra_InvalidNumber := HX.raC_of X G txt fsup (c.d.fact 79 (f := .glo "InvalidNumber") rfl) (c.x 4 (x := HX.raB "SameError" "InvalidNumber") rfl), ra_InvalidSum := HX.raC_of X G txt fsup (c.d.fact 80 (f := .glo "InvalidSum") rfl) (c.x 5 (x := HX.raB "SameError" "InvalidSum") rfl), g_ONE := HX.gval_of X G (c.d.fact 82 (f := .glo "ONE") rfl) (c.x 6 (x := fun K => He.tupB K "ONE" [.int 1, .int 1]) rfl) (fun H => .cons (.int _) (.cons (.int _) (.nil))), fv_bounds_of := HX.fnv_of X G (c.d.fact 37 (f := .glo "bounds_of") rfl) (c.x 7 (x := HX.fnvB "bounds_of") rfl), fv_is_bounded := HX.fnv_of X G (c.d.fact 35 (f := .glo "is_bounded") rfl) (c.x 8 (x := HX.fnvB "is_bounded") rfl), fv_is_sound := HX.fnv_of X G (c.d.fact 33 (f := .glo "is_sound") rfl) (c.x 9 (x := HX.fnvB "is_sound") rfl), sysd := HX.sysB_ok (c.x 10 (x := HX.sysB) rfl)} F_is_whole F_is_count F_check_number F_common_of F_is_fraction F_lowest_of F_is_poly F_cut_poly F_worth_in F_power_in F_is_double F_worths_of_parts F_is_line_told F_is_rising_start F_is_factor F_are_factors F_rising_parts F_line_worth F_whole_lines F_span_where F_is_cut F_factors_worth F_power_parts F_has_double_form F_steps_of F_by_steps F_last_without F_last_missing F_is_sound_everywhere F_check_double_term F_is_there F_double_value_in F_double_value F_is_sound F_is_bounded_in F_is_bounded F_span_of_k F_bounds_of F__law_hash F__law_cell F__law_random F__law_generator F__law_pick F__law_cut F__law_lines F__law_start F__law_base F__law_poly F__law_raw_factor F__law_double_poly F__law_rims F__law_raw_double F__law_span F__law_is_some F__law_lacks F__law_sound_double F__law_caught F__law_right F__law_no_doubles F_law
end My
open PySem PySem.W PySem.Calls PyProof.Rows
theorem My.holds (hm : ∀ ns : List Int, ns.length ≤ 63 → (∀ z ∈ ns, Builtin.Int.intBits z ≤ 1048576) → My.m_law [.dat (.list (ns.map .int))] [] = some (.dat (.bool true), [])) : PySem.Challenge.rw_eversame_k47_whole_sound_and_bounded.Holds := by
  w_on; o_law
  refine HandSHeadRun.head_any (r := OpenLaw.row PySem.Challenge.rw_eversame_k47_whole_sound_and_bounded) (q := view (OpenLaw.row PySem.Challenge.rw_eversame_k47_whole_sound_and_bounded).prog [73]) (H := My.hk) (ob := My.ob) (M := 8000) (loose := My.loose) (d := HandSHeadRun.topDef (OpenLaw.row PySem.Challenge.rw_eversame_k47_whole_sound_and_bounded).prog 73) (kwd := []) My.ob_eq
    (by kernel_rfl) (fun s => by kernel_rfl) My.run (by kernel_rfl) (by kernel_rfl) (by kernel_rfl) (by rfl) (by first | assumption | decide +kernel) (by decide +kernel) ⟨rfl, rfl, rfl, rfl, rfl, by decide +kernel⟩ ?hw ?hc
  case hw => w_witness2
  case hc =>
    refine DL.walk_ofD (l := PySem.Challenge.rw_eversame_k47_whole_sound_and_bounded) (n := 63) (k := 11) (x := "script") (m := My.m_law) rfl (by decide) (by kernel_rfl) ⟨rfl, by decide, by decide⟩ ?F hm
    intro w mg fa h Y G hmg0
    obtain ⟨K, KX, c⟩ := Y
    have hmg : mg ("law" : PySem.Str) = some (.ref fa) := by
      have e : (HandSHeadRun.topDef (OpenLaw.row PySem.Challenge.rw_eversame_k47_whole_sound_and_bounded).prog 73).name = ("law" : PySem.Str) := by kernel_rfl
      rw [← e]
      exact hmg0
    obtain ⟨f, fd, F, _, hm', _⟩ := (My.facts (w := w) KX G c h).ex
    have e := hmg.symm.trans hm'
    cases e
    refine ⟨K, fd, KX, fun s v => (L2.FunD.bindsA (ps := ["script"]) F fun _ _ _ _ _ _ us hl => match us, hl with | [_], _ => rfl) s [v] rfl, fun base kb nb => ?_⟩
    obtain ⟨f2, fd2, F2, D2, hm2, _⟩ := (My.facts (w := w) kb nb c base).ex
    have e2 := hmg.symm.trans hm2
    cases e2
    obtain ⟨_, _, _, _, _, _, _, _, _, _, q1, l1, _, _, _⟩ := F.ex
    obtain ⟨_, _, _, _, _, _, _, _, _, _, q2, l2, _, _, _⟩ := F2.ex
    have e3 := l1.symm.trans l2
    cases e3
    exact D2
theorem PySem.Challenge.cw_eversame_k47_whole_sound_and_bounded_holds : PySem.Challenge.rw_eversame_k47_whole_sound_and_bounded.Holds := by
  exact My.holds fun ns hl hb => My.law_eq hl hb
