import PyProof.Rows.All
import Wide.All
import OpenK.AllK
import Wide.FinOn
import HandS.ForMost
import HandS.IsInst
import HandS.Defaults
import KE.KDictWalk
import KE.DataEq
import KE.DataCmp
import KE.DataIsa
import PyProof.ReprRoads
import HandS.Wide
import HandS.Flow
import HandS.Style
import HandS.TupAny
import HandS.TupMul
import HandS.WideBits
import HandS.StrMore
import HandS.SortInts
import HandS.Small
import HandS.Comp
import HandS.Zip
import HandS.WordsExc
import PyProof.Rows.StrOr
import HandS.RaiseMore
import PyProof.ListStr
import KE.SortData
import HandS.Text
import HandS.Dict
import PyProof.ReprBulk
import HandS.Ends
import HandS.EndBits
import HandS.Head0
import HandS.Head1
import HandS.Head2
import HandS.HeadEnd
import HandS.HeadHook1
import HandS.HeadHook2
import KE.DataAny
import HandS.Conv
import PySem.Challenge.RW_eversame_k03_whole_fractions_made_and_ju
set_option Elab.async false
set_option linter.all false
set_option maxRecDepth 100000
set_option maxHeartbeats 0
/-! DL: a data layer over the hand layer. Values as plain data; lists that are changed in place as owned cells. -/
namespace DL
open PySem PySem.Spec PyProof.Rows L2

abbrev D := PyData
/-- owned cells: what stands in each (none: given up) -/
abbrev Cs := List (Option (List D))
/-- what an expression gives: data, an owned cell, a fresh list -/
inductive Rv where
  | dat (d : D)
  | own (k : Nat)
  | fr (c : List D)
/-- slots: none is no value -/
abbrev Rho := List (Option Rv)

def kD : Key → D
  | .inl i => .int i
  | .inr x => .str x

/-- a list: tracked, or one of the module's own objects -/
def LstAt (K : PySem.W.Frag) (H : Hp) (a : Addr) (xs : List V) : Prop := Rd H a (.lst xs) ∨ ∃ (its : List Value) (n : Nat), K.lookup a = some { cls := .type "list", data := .seq its.toArray n } ∧ xs.length ≤ sizeLine ∧ Vals xs its
theorem LstAt.sq {K : PySem.W.Frag} {H : Hp} {a : Addr} {xs : List V} (h : LstAt K H a xs) : SqL K H a xs := by
  rcases h with h | ⟨its, n, h1, h2, h3⟩
  · exact .inl h
  · exact .inr ⟨_, its.toArray, n, h1, rfl, rfl, rfl, by rw [List.size_toArray, ← h3.length]; exact h2, by simpa using h3⟩
mutual
inductive Rp (K : PySem.W.Frag) (H : Hp) : V → D → Prop
  | non : Rp K H .non .none
  | bl (b : Bool) : Rp K H (.bl b) (.bool b)
  | int (i : Int) : Rp K H (.int i) (.int i)
  | str (x : Str) (h : x.length ≤ sizeLine) : Rp K H (.str x) (.str x)
  | lst {a : Addr} {xs : List V} {ds : List D} : LstAt K H a xs → RpAll K H xs ds → Rp K H (.ref a) (.list ds)
  | tup {a : Addr} {xs : List V} {ds : List D} : Rd H a (.tup xs) → RpAll K H xs ds → Rp K H (.ref a) (.tuple ds)
  | dct {a : Addr} {o : Obj} {kvs : List (Key × V)} {ds : List (D × D)} : H a = some (.frz o (.dK kvs)) → kvs.map (fun p => kD p.1) = ds.map (·.1) → RpAll K H (kvs.map (·.2)) (ds.map (·.2)) → Rp K H (.ref a) (.dict ds)
inductive RpAll (K : PySem.W.Frag) (H : Hp) : List V → List D → Prop
  | nil : RpAll K H [] []
  | cons {v : V} {vs : List V} {d : D} {ds : List D} : Rp K H v d → RpAll K H vs ds → RpAll K H (v :: vs) (d :: ds)
end

section
variable {K : PySem.W.Frag} {H H' : Hp}
theorem rd_mono (h : ∀ a o, H a = some o → H' a = some o) {a : Addr} {u : HO} (q : Rd H a u) : Rd H' a u := by
  rcases q with q | ⟨o, q⟩
  · exact .inl (h _ _ q)
  · exact .inr ⟨o, h _ _ q⟩
theorem LstAt.mono (h : ∀ a o, H a = some o → H' a = some o) {a : Addr} {xs : List V} (q : LstAt K H a xs) : LstAt K H' a xs := q.imp (rd_mono h) id
mutual
theorem Rp.mono (h : ∀ a o, H a = some o → H' a = some o) : ∀ {v : V} {d : D}, Rp K H v d → Rp K H' v d
  | _, _, .non => .non
  | _, _, .bl b => .bl b
  | _, _, .int i => .int i
  | _, _, .str x q => .str x q
  | _, _, .lst q r => .lst (q.mono h) (RpAll.mono h r)
  | _, _, .tup q r => .tup (rd_mono h q) (RpAll.mono h r)
  | _, _, .dct q e r => .dct (h _ _ q) e (RpAll.mono h r)
theorem RpAll.mono (h : ∀ a o, H a = some o → H' a = some o) : ∀ {vs : List V} {ds : List D}, RpAll K H vs ds → RpAll K H' vs ds
  | _, _, .nil => .nil
  | _, _, .cons a r => .cons (Rp.mono h a) (RpAll.mono h r)
end
theorem RpAll.length : ∀ {vs : List V} {ds : List D}, RpAll K H vs ds → vs.length = ds.length
  | _, _, .nil => rfl
  | _, _, .cons _ r => by rw [List.length_cons, List.length_cons, r.length]
theorem RpAll.get : ∀ {vs : List V} {ds : List D} {i : Nat} {d : D}, RpAll K H vs ds → ds[i]? = some d → ∃ v, vs[i]? = some v ∧ Rp K H v d
  | _, _, _, _, .nil, e => by simp at e
  | _, _, 0, _, .cons a _, e => by simp at e; subst e; exact ⟨_, rfl, a⟩
  | _, _, i + 1, d, .cons _ r, e => by
    obtain ⟨v, h1, h2⟩ := RpAll.get (i := i) (d := d) r (by simpa using e)
    exact ⟨v, by simpa using h1, h2⟩
theorem RpAll.get' : ∀ {vs : List V} {ds : List D} {i : Nat} {v : V}, RpAll K H vs ds → vs[i]? = some v → ∃ d, ds[i]? = some d ∧ Rp K H v d
  | _, _, _, _, .nil, e => by simp at e
  | _, _, 0, _, .cons a _, e => by simp at e; subst e; exact ⟨_, rfl, a⟩
  | _, _, i + 1, d, .cons _ r, e => by
    obtain ⟨v, h1, h2⟩ := RpAll.get' (i := i) (v := d) r (by simpa using e)
    exact ⟨v, by simpa using h1, h2⟩
theorem RpAll.append : ∀ {vs ws : List V} {ds es : List D}, RpAll K H vs ds → RpAll K H ws es → RpAll K H (vs ++ ws) (ds ++ es)
  | _, _, _, _, .nil, s => s
  | _, _, _, _, .cons a r, s => .cons a (RpAll.append r s)
theorem RpAll.take : ∀ {vs : List V} {ds : List D} (n : Nat), RpAll K H vs ds → RpAll K H (vs.take n) (ds.take n)
  | _, _, 0, _ => .nil
  | _, _, _ + 1, .nil => .nil
  | _, _, n + 1, .cons a r => .cons a (RpAll.take n r)
theorem RpAll.drop : ∀ {vs : List V} {ds : List D} (n : Nat), RpAll K H vs ds → RpAll K H (vs.drop n) (ds.drop n)
  | _, _, 0, r => r
  | _, _, _ + 1, .nil => .nil
  | _, _, n + 1, .cons _ r => RpAll.drop n r
theorem RpAll.set {x : V} {d : D} (a : Rp K H x d) : ∀ {vs : List V} {ds : List D} (i : Nat), RpAll K H vs ds → RpAll K H (vs.set i x) (ds.set i d)
  | _, _, _, .nil => .nil
  | _, _, 0, .cons _ r => .cons a r
  | _, _, i + 1, .cons b r => .cons b (RpAll.set a i r)
theorem RpAll.reverse : ∀ {vs : List V} {ds : List D}, RpAll K H vs ds → RpAll K H vs.reverse ds.reverse
  | _, _, .nil => .nil
  | _, _, .cons a r => by rw [List.reverse_cons, List.reverse_cons]; exact (RpAll.reverse r).append (.cons a .nil)
end

/-! ### the cells, the data's heap -/
def live (O : List (Option Addr)) : List Addr := O.filterMap id
theorem mem_live {O : List (Option Addr)} {a : Addr} : a ∈ live O ↔ ∃ i : Nat, O[i]? = some (some a) := by
  unfold live
  rw [List.mem_filterMap]
  constructor
  · rintro ⟨x, hx, e⟩
    have e' : x = some a := e
    subst e'
    exact List.mem_iff_getElem?.mp hx
  · rintro ⟨i, e⟩
    exact ⟨some a, List.mem_of_getElem? e, rfl⟩
/-- the heap of the data: without the owned cells -/
def hd (O : List (Option Addr)) (H : Hp) : Hp := fun a => if a ∈ live O then none else H a
theorem hd_some {O : List (Option Addr)} {H : Hp} {a : Addr} {o : HO} (h : hd O H a = some o) : a ∉ live O ∧ H a = some o := by
  unfold hd at h
  split at h
  · cases h
  · rename_i n
    exact ⟨n, h⟩
theorem hd_of {O : List (Option Addr)} {H : Hp} {a : Addr} {o : HO} (n : a ∉ live O) (h : H a = some o) : hd O H a = some o := by
  unfold hd
  rw [if_neg n]
  exact h
/-- what is not an owned cell stays -/
def Ch (O : List (Option Addr)) (H H' : Hp) : Prop := ∀ a o, a ∉ live O → H a = some o → H' a = some o
theorem Ch.refl {O : List (Option Addr)} {H : Hp} : Ch O H H := fun _ _ _ h => h
theorem Ch.trans {O : List (Option Addr)} {H H1 H2 : Hp} (a : Ch O H H1) (b : Ch O H1 H2) : Ch O H H2 := fun x o n h => b x o n (a x o n h)
theorem Ch.data {O : List (Option Addr)} {H H' : Hp} (c : Ch O H H') : ∀ a o, hd O H a = some o → hd O H' a = some o := fun a o h => by
  obtain ⟨n, e⟩ := hd_some h
  exact hd_of n (c a o n e)
structure Wd (K : PySem.W.Frag) (O : List (Option Addr)) (cs : Cs) (H : Hp) : Prop where
  len : cs.length = O.length
  inj : ∀ (i j : Nat) (a : Addr), O[i]? = some (some a) → O[j]? = some (some a) → i = j
  cell : ∀ (i : Nat) (a : Addr), O[i]? = some (some a) → ∃ c vs, cs[i]? = some (some c) ∧ H a = some (.lst vs) ∧ RpAll K (hd O H) vs c
  ded : ∀ (i : Nat), O[i]? = some none → cs[i]? = some none
theorem Wd.of {K : PySem.W.Frag} {O : List (Option Addr)} {cs : Cs} {H : Hp} (w : Wd K O cs H) {i : Nat} {c : List D} (h : cs[i]? = some (some c)) : ∃ a vs, O[i]? = some (some a) ∧ H a = some (.lst vs) ∧ RpAll K (hd O H) vs c := by
  obtain ⟨hi, e⟩ := List.getElem?_eq_some_iff.mp h
  have hi' : i < O.length := by rw [← w.len]; exact hi
  cases q : O[i] with
  | none =>
    have := w.ded i (by rw [List.getElem?_eq_getElem hi', q])
    rw [h] at this; cases this
  | some a =>
    have q' : O[i]? = some (some a) := by rw [List.getElem?_eq_getElem hi', q]
    obtain ⟨c', vs, h1, h2, h3⟩ := w.cell i a q'
    rw [h] at h1; cases h1
    exact ⟨a, vs, q', h2, h3⟩
theorem Wd.some_live {K : PySem.W.Frag} {O : List (Option Addr)} {cs : Cs} {H : Hp} (w : Wd K O cs H) {a : Addr} (h : a ∈ live O) : ∃ o, H a = some o := by
  obtain ⟨i, e⟩ := mem_live.mp h
  obtain ⟨c, vs, _, h2, _⟩ := w.cell i a e
  exact ⟨_, h2⟩
theorem Wd.fresh {K : PySem.W.Frag} {O : List (Option Addr)} {cs : Cs} {H : Hp} (w : Wd K O cs H) {a : Addr} (h : H a = none) : a ∉ live O := fun z => by
  obtain ⟨o, e⟩ := w.some_live z
  rw [h] at e; cases e
/-- what is new behind is new ahead -/
theorem Wd.new_of {K : PySem.W.Frag} {O : List (Option Addr)} {cs cs' : Cs} {H H' : Hp} (w : Wd K O cs H) (w' : Wd K O cs' H') (c : Ch O H H') {p : Addr} (h : H' p = none) : H p = none := by
  cases q : H p with
  | none => rfl
  | some o =>
    have := c p o (w'.fresh h) q
    rw [h] at this; cases this

/-- a value as an Rv, behind H (from H on) -/
def RvR (K : PySem.W.Frag) (O : List (Option Addr)) (H : Hp) (cs' : Cs) (r : Rv) (v : V) (H' : Hp) : Prop :=
  match r with
  | .dat d => Rp K (hd O H') v d
  | .own k => ∃ a, v = .ref a ∧ O[k]? = some (some a)
  | .fr c => ∃ p, v = .ref p ∧ H p = none ∧ Wd K (O ++ [some p]) (cs' ++ [some c]) H'
/-- as it stays: no fresh one -/
def ArR (K : PySem.W.Frag) (O : List (Option Addr)) (r : Rv) (v : V) (H : Hp) : Prop :=
  match r with
  | .dat d => Rp K (hd O H) v d
  | .own k => ∃ a, v = .ref a ∧ O[k]? = some (some a)
  | .fr _ => False
def deg : Rv → Rv
  | .fr c => .dat (.list c)
  | r => r
theorem hd_app {O : List (Option Addr)} {p : Addr} {H : Hp} : ∀ a o, hd (O ++ [some p]) H a = some o → hd O H a = some o := fun a o h => by
  obtain ⟨n, e⟩ := hd_some h
  refine hd_of (fun z => n ?_) e
  obtain ⟨i, q⟩ := mem_live.mp z
  refine mem_live.mpr ⟨i, ?_⟩
  rw [List.getElem?_append_left (List.getElem?_eq_some_iff.mp q).1]
  exact q
theorem Wd.pop {K : PySem.W.Frag} {O : List (Option Addr)} {p : Addr} {cs : Cs} {c : List D} {H : Hp} (w : Wd K (O ++ [some p]) (cs ++ [some c]) H) : Wd K O cs H ∧ Rp K (hd O H) (.ref p) (.list c) ∧ p ∉ live O := by
  have hl : cs.length = O.length := by have := w.len; simpa using this
  have up : ∀ {i : Nat} {x : Option Addr}, O[i]? = some x → (O ++ [some p])[i]? = some x := fun {i x} q => by
    rw [List.getElem?_append_left (List.getElem?_eq_some_iff.mp q).1]; exact q
  have last : (O ++ [some p])[O.length]? = some (some p) := by simp
  have np : p ∉ live O := fun z => by
    obtain ⟨i, q⟩ := mem_live.mp z
    have := w.inj i O.length p (up q) last
    have h2 := (List.getElem?_eq_some_iff.mp q).1
    omega
  refine ⟨⟨hl, fun i j a h1 h2 => w.inj i j a (up h1) (up h2), fun i a h => ?_, fun i h => ?_⟩, ?_, np⟩
  · obtain ⟨c', vs, h1, h2, h3⟩ := w.cell i a (up h)
    rw [List.getElem?_append_left (by rw [hl]; exact (List.getElem?_eq_some_iff.mp h).1)] at h1
    exact ⟨c', vs, h1, h2, h3.mono hd_app⟩
  · have h1 := w.ded i (up h)
    rw [List.getElem?_append_left (by rw [hl]; exact (List.getElem?_eq_some_iff.mp h).1)] at h1
    exact h1
  · obtain ⟨c', vs, h1, h2, h3⟩ := w.cell O.length p last
    rw [← hl] at h1
    simp at h1
    subst h1
    exact .lst (.inl (.inl (hd_of np h2))) (h3.mono hd_app)
theorem RvR.deg {K : PySem.W.Frag} {O : List (Option Addr)} {H H' : Hp} {cs' : Cs} {r : Rv} {v : V} (h : RvR K O H cs' r v H') : ArR K O (deg r) v H' := by
  cases r with
  | dat d => exact h
  | own k => exact h
  | fr c =>
    obtain ⟨p, rfl, _, w⟩ := h
    exact w.pop.2.1
theorem ArR.ch {K : PySem.W.Frag} {O : List (Option Addr)} {H H' : Hp} {r : Rv} {v : V} (c : Ch O H H') (h : ArR K O r v H) : ArR K O r v H' := by
  cases r with
  | dat d => exact Rp.mono c.data h
  | own k => exact h
  | fr c => exact h
/-- an owned cell's content, or data -/
def rd (r : Rv) (cs : Cs) : Option D :=
  match r with
  | .dat d => some d
  | .own k => match cs[k]? with
    | some (some c) => some (.list c)
    | _ => none
  | .fr c => some (.list c)
/-- as it is read: the list itself may be an owned cell, what it holds is data -/
def Sh (K : PySem.W.Frag) (O : List (Option Addr)) (H : Hp) (v : V) (d : D) : Prop := Rp K (hd O H) v d ∨ ∃ a vs ds, v = .ref a ∧ d = .list ds ∧ H a = some (.lst vs) ∧ RpAll K (hd O H) vs ds
theorem ArR.sh {K : PySem.W.Frag} {O : List (Option Addr)} {H : Hp} {cs : Cs} {r : Rv} {v : V} {d : D} (w : Wd K O cs H) (h : ArR K O r v H) (e : rd r cs = some d) : Sh K O H v d := by
  cases r with
  | dat d' =>
    cases e
    exact .inl h
  | own k =>
    obtain ⟨a, rfl, q⟩ := h
    obtain ⟨c, vs, h1, h2, h3⟩ := w.cell k a q
    unfold rd at e
    simp only [h1] at e
    cases e
    exact .inr ⟨a, vs, c, rfl, rfl, h2, h3⟩
  | fr c => exact h.elim
theorem hd_le {O : List (Option Addr)} {H : Hp} : ∀ a o, hd O H a = some o → H a = some o := fun a o h => (hd_some h).2
theorem Sh.rp {K : PySem.W.Frag} {O : List (Option Addr)} {H : Hp} {v : V} {d : D} (h : Sh K O H v d) : Rp K H v d := by
  rcases h with h | ⟨a, vs, ds, rfl, rfl, h1, h2⟩
  · exact h.mono hd_le
  · exact .lst (.inl (.inl h1)) (h2.mono hd_le)
/-- items of what is read are data -/
theorem Sh.list {K : PySem.W.Frag} {O : List (Option Addr)} {H : Hp} {v : V} {ds : List D} (h : Sh K O H v (.list ds)) : ∃ a vs, v = .ref a ∧ LstAt K H a vs ∧ RpAll K (hd O H) vs ds := by
  rcases h with h | ⟨a, vs, ds', rfl, e, h1, h2⟩
  · cases h with
    | lst q r => exact ⟨_, _, rfl, q.mono hd_le, r⟩
  · cases e
    exact ⟨a, vs, rfl, .inl (.inl h1), h2⟩
theorem Sh.tuple {K : PySem.W.Frag} {O : List (Option Addr)} {H : Hp} {v : V} {ds : List D} (h : Sh K O H v (.tuple ds)) : ∃ a vs, v = .ref a ∧ Rd H a (.tup vs) ∧ RpAll K (hd O H) vs ds := by
  rcases h with h | ⟨a, vs, ds', rfl, e, h1, h2⟩
  · cases h with
    | tup q r => exact ⟨_, _, rfl, rd_mono hd_le q, r⟩
  · cases e
theorem Sh.int {K : PySem.W.Frag} {O : List (Option Addr)} {H : Hp} {v : V} {i : Int} (h : Sh K O H v (.int i)) : v = .int i := by
  rcases h with h | ⟨a, vs, ds', rfl, e, h1, h2⟩
  · cases h; rfl
  · cases e
theorem Sh.bool {K : PySem.W.Frag} {O : List (Option Addr)} {H : Hp} {v : V} {i : Bool} (h : Sh K O H v (.bool i)) : v = .bl i := by
  rcases h with h | ⟨a, vs, ds', rfl, e, h1, h2⟩
  · cases h; rfl
  · cases e
theorem Sh.none {K : PySem.W.Frag} {O : List (Option Addr)} {H : Hp} {v : V} (h : Sh K O H v .none) : v = .non := by
  rcases h with h | ⟨a, vs, ds', rfl, e, h1, h2⟩
  · cases h; rfl
  · cases e
theorem Sh.str {K : PySem.W.Frag} {O : List (Option Addr)} {H : Hp} {v : V} {x : Str} (h : Sh K O H v (.str x)) : v = .str x ∧ x.length ≤ sizeLine := by
  rcases h with h | ⟨a, vs, ds', rfl, e, h1, h2⟩
  · cases h with
    | str _ q => exact ⟨rfl, q⟩
  · cases e
theorem Sh.dict {K : PySem.W.Frag} {O : List (Option Addr)} {H : Hp} {v : V} {ds : List (D × D)} (h : Sh K O H v (.dict ds)) : ∃ a kvs, v = .ref a ∧ Rd H a (.dK kvs) ∧ kvs.map (fun p => kD p.1) = ds.map (·.1) ∧ RpAll K (hd O H) (kvs.map (·.2)) (ds.map (·.2)) := by
  rcases h with h | ⟨a, vs, ds', rfl, e, h1, h2⟩
  · cases h with
    | dct q e r =>
      exact ⟨_, _, rfl, .inr ⟨_, hd_le _ _ q⟩, e, r⟩
  · cases e
/-- the environment -/
structure EnvOk (K : PySem.W.Frag) (O : List (Option Addr)) (H : Hp) (ρ : Rho) (σ : L2.St) : Prop where
  len : ρ.length = σ.length
  slot : ∀ (i : Nat) (r : Rv), ρ[i]? = some (some r) → ∃ v, σ[i]? = some (some v) ∧ ArR K O r v H
theorem EnvOk.ch {K : PySem.W.Frag} {O : List (Option Addr)} {H H' : Hp} {ρ : Rho} {σ : L2.St} (e : EnvOk K O H ρ σ) (c : Ch O H H') : EnvOk K O H' ρ σ :=
  ⟨e.len, fun i r h => let ⟨v, h1, h2⟩ := e.slot i r h; ⟨v, h1, h2.ch c⟩⟩
theorem EnvOk.set {K : PySem.W.Frag} {O : List (Option Addr)} {H : Hp} {ρ : Rho} {σ : L2.St} (e : EnvOk K O H ρ σ) (i : Nat) {r : Rv} {v : V} (h : ArR K O r v H) : EnvOk K O H (ρ.set i (some r)) (σ.set i (some v)) := by
  refine ⟨by simp [e.len], fun j r' hj => ?_⟩
  by_cases q : i = j
  · subst q
    have hi : i < ρ.length := by
      have := (List.getElem?_eq_some_iff.mp hj).1
      simpa using this
    rw [List.getElem?_set_self hi] at hj
    cases hj
    exact ⟨v, by rw [List.getElem?_set_self (by rw [← e.len]; exact hi)], h⟩
  · rw [List.getElem?_set_ne q] at hj
    obtain ⟨w, h1, h2⟩ := e.slot j r' hj
    exact ⟨w, by rw [List.getElem?_set_ne q]; exact h1, h2⟩

/-! ### new objects -/
section
variable {K : PySem.W.Frag} {O : List (Option Addr)} {cs : Cs} {H : Hp}
theorem ch_new {p : Addr} {o : HO} (hp : H p = none) : Ch O H (upd H p o) := fun a u _ h => by
  rw [upd_ne (ne_of_none h hp)]; exact h
theorem Wd.new (w : Wd K O cs H) {p : Addr} {o : HO} (hp : H p = none) : Wd K O cs (upd H p o) := by
  refine ⟨w.len, w.inj, fun i a h => ?_, w.ded⟩
  obtain ⟨c, vs, h1, h2, h3⟩ := w.cell i a h
  exact ⟨c, vs, h1, by rw [upd_ne (ne_of_none h2 hp)]; exact h2, h3.mono (ch_new hp).data⟩
theorem Wd.newList (w : Wd K O cs H) {p : Addr} {vs : List V} {c : List D} (hp : H p = none) (r : RpAll K (hd O H) vs c) : Wd K (O ++ [some p]) (cs ++ [some c]) (upd H p (.lst vs)) := by
  have np := w.fresh hp
  have sub : ∀ a o, hd O H a = some o → hd (O ++ [some p]) (upd H p (.lst vs)) a = some o := fun a o h => by
    obtain ⟨n, e⟩ := hd_some h
    have ne : a ≠ p := ne_of_none e hp
    refine hd_of (fun z => ?_) (by rw [upd_ne ne]; exact e)
    obtain ⟨i, q⟩ := mem_live.mp z
    by_cases hi : i < O.length
    · rw [List.getElem?_append_left hi] at q
      exact n (mem_live.mpr ⟨i, q⟩)
    · rw [List.getElem?_append_right (by omega)] at q
      have : i - O.length = 0 := by
        have := (List.getElem?_eq_some_iff.mp q).1
        simp at this; omega
      rw [this] at q
      simp at q
      exact ne q.symm
  have split : ∀ {i : Nat} {x : Option Addr}, (O ++ [some p])[i]? = some x → (i < O.length ∧ O[i]? = some x) ∨ (i = O.length ∧ x = some p) := fun {i x} q => by
    by_cases hi : i < O.length
    · rw [List.getElem?_append_left hi] at q
      exact .inl ⟨hi, q⟩
    · rw [List.getElem?_append_right (by omega)] at q
      have h0 : i - O.length = 0 := by
        have := (List.getElem?_eq_some_iff.mp q).1
        simp at this; omega
      rw [h0] at q
      simp at q
      exact .inr ⟨by omega, q.symm⟩
  refine ⟨by simp [w.len], fun i j a h1 h2 => ?_, fun i a h => ?_, fun i h => ?_⟩
  · rcases split h1 with ⟨l1, q1⟩ | ⟨e1, q1⟩ <;> rcases split h2 with ⟨l2, q2⟩ | ⟨e2, q2⟩
    · exact w.inj i j a q1 q2
    · cases q2; exact absurd (mem_live.mpr ⟨i, q1⟩) np
    · cases q1; exact absurd (mem_live.mpr ⟨j, q2⟩) np
    · omega
  · rcases split h with ⟨l1, q1⟩ | ⟨e1, q1⟩
    · obtain ⟨c', vs', h1, h2, h3⟩ := w.cell i a q1
      refine ⟨c', vs', ?_, by rw [upd_ne (ne_of_none h2 hp)]; exact h2, h3.mono sub⟩
      rw [List.getElem?_append_left (by rw [w.len]; exact l1)]; exact h1
    · cases q1
      refine ⟨c, vs, ?_, upd_same, r.mono sub⟩
      rw [e1, ← w.len]; simp
  · rcases split h with ⟨l1, q1⟩ | ⟨e1, q1⟩
    · rw [List.getElem?_append_left (by rw [w.len]; exact l1)]; exact w.ded i q1
    · cases q1
end
/-- what an expression wants behind -/
def PostX (K : PySem.W.Frag) (O : List (Option Addr)) (H : Hp) (r : Rv) (cs' : Cs) (Q : VK) : Prop := ∀ v H', Ch O H H' → Wd K O cs' H' → RvR K O H cs' r v H' → Q v H'
section
variable {K : PySem.W.Frag} {O : List (Option Addr)} {cs : Cs} {H : Hp} {Q : VK}
theorem post_list {vs : List V} {c : List D} (w : Wd K O cs H) (r : RpAll K (hd O H) vs c) (h : PostX K O H (.fr c) cs Q) : ∀ p, H p = none → Q (.ref p) (upd H p (.lst vs)) := fun p hp =>
  h _ _ (ch_new hp) (w.new hp) ⟨p, rfl, hp, w.newList hp r⟩
theorem post_tup {vs : List V} {c : List D} (w : Wd K O cs H) (r : RpAll K (hd O H) vs c) (h : PostX K O H (.dat (.tuple c)) cs Q) : ∀ p, H p = none → Q (.ref p) (upd H p (.tup vs)) := fun p hp =>
  h _ _ (ch_new hp) (w.new hp) (.tup (.inl (hd_of (w.fresh hp) upd_same)) (r.mono (ch_new hp).data))
theorem post_val {v : V} {d : D} (w : Wd K O cs H) (r : Rp K (hd O H) v d) (h : PostX K O H (.dat d) cs Q) : Q v H := h _ _ .refl w r
theorem post_int {i : Int} (w : Wd K O cs H) (h : PostX K O H (.dat (.int i)) cs Q) : Q (.int i) H := post_val w (.int i) h
theorem post_bool {b : Bool} (w : Wd K O cs H) (h : PostX K O H (.dat (.bool b)) cs Q) : Q (.bl b) H := post_val w (.bl b) h
theorem post_str {x : Str} (w : Wd K O cs H) (hz : x.length ≤ sizeLine) (h : PostX K O H (.dat (.str x)) cs Q) : Q (.str x) H := post_val w (.str x hz) h
end
end DL
namespace DL
open PySem PySem.Spec PyProof.Rows L2

/-! ### data as the library reads it -/
section
variable {X : Cx} {pins : List (Addr × Obj)} {σ : L2.St} {H : Hp} {s : Shared}
theorem keys_reads {h : Heap} : ∀ {kvs : List (Key × V)} {ds : List D} {us : List Value}, kvs.map (fun p => kD p.1) = ds → (∀ (i : Nat) (k : Key) (v : V), kvs[i]? = some (k, v) → ∃ u, us[i]? = some u ∧ keyIs k u = true) → us.length = kvs.length → ∃ as, ReadsAll h us ds as := by
  intro kvs
  induction kvs with
  | nil =>
    intro ds us e _ hl
    subst e
    cases us with
    | nil => exact ⟨_, .nil⟩
    | cons _ _ => cases hl
  | cons kv r ih =>
    intro ds us e hk hl
    subst e
    cases us with
    | nil => cases hl
    | cons u us =>
      obtain ⟨as, ha⟩ := ih (us := us) rfl (fun i k v h => hk (i + 1) k v (by simpa using h)) (by simpa using hl)
      obtain ⟨u', e1, e2⟩ := hk 0 kv.1 kv.2 rfl
      have e1' : u = u' := by simpa using e1
      subst e1'
      rcases keyIs_shape e2 with ⟨i, t, ek, rfl⟩ | ⟨x, t, ek, rfl⟩
      · refine ⟨_, .cons (d := kD kv.1) (as := []) (by rw [ek]; exact .int i t) ha⟩
      · refine ⟨_, .cons (d := kD kv.1) (as := []) (by rw [ek]; exact .str x t) ha⟩
mutual
theorem Rp.reads (I : Inv X pins σ H s) : ∀ {v : V} {d : D}, Rp X.K H v d → ∀ u : Value, RelV v u → ∃ as, Reads s.heap u d as
  | _, _, .non, u, r => by cases r; exact ⟨_, Reads.none⟩
  | _, _, .bl b, u, r => by cases r; exact ⟨_, Reads.bool b⟩
  | _, _, .int i, u, r => by obtain ⟨t, rfl⟩ := r; exact ⟨_, Reads.int i t⟩
  | _, _, .str x _, u, r => by obtain ⟨t, rfl⟩ := r; exact ⟨_, Reads.str x t⟩
  | _, _, .lst q a, u, r => by
    cases r
    obtain ⟨its, rv, ⟨o, n, ho, hc, _, hd⟩, _⟩ := I.list q.sq
    obtain ⟨as, hr⟩ := RpAll.reads I a its rv
    exact ⟨_, Reads.list ho hc hd hr⟩
  | _, _, .tup q a, u, r => by
    cases r
    obtain ⟨its, rv, ⟨o, ho, hc, n, hd⟩, _⟩ := I.tuple (.inl q)
    obtain ⟨as, hr⟩ := RpAll.reads I a its rv
    exact ⟨_, Reads.tuple ho hc hd hr⟩
  | _, _, .dct (a := a) (kvs := kvs) (ds := ds) q e b, u, r => by
    cases r
    obtain ⟨hz, hS, vs, rk, m⟩ := dk_rd I.hok (.inr ⟨_, q⟩)
    obtain ⟨es, ep, ⟨o, ho, hx, hd⟩, hl, hk⟩ := Heap.DictOf.raw m
    have hlen : kvs.length = vs.length := Paired.length rk
    have rvals : Vals (kvs.map (·.2)) (es.toList.map (·.val)) := by
      have e1 : es.toList.map (·.val) = vs.map (·.2) := by
        apply List.ext_getElem?
        intro i
        rw [List.getElem?_map, List.getElem?_map]
        by_cases hi : i < es.size
        · have hi2 : i < vs.length := by omega
          rw [List.getElem?_eq_getElem (by simpa using hi), List.getElem?_eq_getElem hi2]
          have := (hk i hi vs[i].1 vs[i].2 (List.getElem?_eq_getElem hi2)).2
          simp [this]
        · rw [List.getElem?_eq_none (by simpa using hi), List.getElem?_eq_none (by omega)]; rfl
      rw [e1]
      clear hk e1 hl hd ho hx m hz hS
      clear b e q
      clear hlen
      induction rk with
      | nil => exact .nil
      | cons p _ ih => exact .cons p.2 ih
    obtain ⟨as, h1⟩ := keys_reads (h := s.heap) (kvs := kvs) (us := es.toList.map (·.key)) e (fun i k v h => by
      have hi : i < kvs.length := (List.getElem?_eq_some_iff.mp h).1
      have hi2 : i < es.size := by omega
      have hi3 : i < vs.length := by omega
      have h3 : kvs[i]? = some kvs[i] := List.getElem?_eq_getElem hi
      have key : vs[i].1 = k := by
        have : ∀ {l : List (Key × V)} {m : List (Key × Value)}, KV l m → ∀ (j : Nat) p q, l[j]? = some p → m[j]? = some q → p.1 = q.1 := by
          intro l m r
          induction r with
          | nil => intro j p q h; simp at h
          | cons a _ ih =>
            intro j p q hp hq
            cases j with
            | zero => simp at hp hq; rw [← hp, ← hq]; exact a.1
            | succ j => exact ih j p q (by simpa using hp) (by simpa using hq)
        exact (this rk i _ _ h (List.getElem?_eq_getElem hi3)).symm
      have := (hk i hi2 vs[i].1 vs[i].2 (List.getElem?_eq_getElem hi3)).1
      refine ⟨es[i].key, ?_, ?_⟩
      · rw [List.getElem?_map, List.getElem?_eq_getElem (by simpa using hi2)]; simp
      · rw [← key]; exact this) (by simp; omega)
    obtain ⟨bs, h2⟩ := RpAll.reads I b _ rvals
    exact ⟨_, Reads.dict ho hx.1 hd h1 h2⟩
theorem RpAll.reads (I : Inv X pins σ H s) : ∀ {vs : List V} {ds : List D}, RpAll X.K H vs ds → ∀ us : List Value, Vals vs us → ∃ as, ReadsAll s.heap us ds as
  | _, _, .nil, us, r => by cases r; exact ⟨_, ReadsAll.nil⟩
  | _, _, .cons a b, us, r => by
    cases r with
    | cons r1 r2 =>
      obtain ⟨as, q1⟩ := Rp.reads I a _ r1
      obtain ⟨bs, q2⟩ := RpAll.reads I b _ r2
      exact ⟨_, ReadsAll.cons q1 q2⟩
end
end

/-! ### expressions -/
abbrev ME := Rho → Cs → Option (Rv × Cs)
abbrev MT := Rho → Cs → Option (Bool × Cs)
abbrev MA := Rho → Cs → Option (List Rv × Cs)
def tX (K : PySem.W.Frag) (f : ME) : TE := fun σ H Q => ∃ ρ O cs r cs', f ρ cs = some (r, cs') ∧ EnvOk K O H ρ σ ∧ Wd K O cs H ∧ PostX K O H r cs' Q
def XE (X : Cx) (f : ME) (e : Expr) : Prop := PE X e (tX X.K f)
theorem pe_weak {X : Cx} {e : Expr} {t t' : TE} (h : PE X e t) (w : ∀ σ H Q, t' σ H Q → t σ H Q) : PE X e t' := ⟨fun pins s σ H Q I q => h.run pins s σ H Q I (w _ _ _ q)⟩
theorem pt_weak {X : Cx} {e : Expr} {t t' : TT} (h : PT X e t) (w : ∀ σ H Q, t' σ H Q → t σ H Q) : PT X e t' := ⟨fun pins s σ H Q I q => h.run pins s σ H Q I (w _ _ _ q)⟩
theorem ps_weak {X : Cx} {e : Stmt} {t t' : TS} (h : PS X e t) (w : ∀ D σ H, t' D σ H → t D σ H) : PS X e t' := ⟨fun pins s σ H D I q => h.run pins s σ H D I (w _ _ _ q)⟩
def Pst (K : PySem.W.Frag) (O : List (Option Addr)) (H : Hp) (cs' : Cs) (Q : Hp → Prop) : Prop := ∀ H', Ch O H H' → Wd K O cs' H' → Q H'
def tXT (K : PySem.W.Frag) (f : MT) : TT := fun σ H Q => ∃ ρ O cs b cs', f ρ cs = some (b, cs') ∧ EnvOk K O H ρ σ ∧ Wd K O cs H ∧ Pst K O H cs' (Q b)
def XT (X : Cx) (f : MT) (e : Expr) : Prop := PT X e (tXT X.K f)
def ArRs (K : PySem.W.Frag) (O : List (Option Addr)) (H : Hp) : List Rv → List V → Prop
  | [], [] => True
  | r :: rs, v :: vs => ArR K O r v H ∧ ArRs K O H rs vs
  | _, _ => False
theorem ArRs.ch {K : PySem.W.Frag} {O : List (Option Addr)} {H H' : Hp} (c : Ch O H H') : ∀ {rs : List Rv} {vs : List V}, ArRs K O H rs vs → ArRs K O H' rs vs
  | [], [], _ => trivial
  | r :: rs, v :: vs, h => ⟨h.1.ch c, ArRs.ch c h.2⟩
  | [], _ :: _, h => h
  | _ :: _, [], h => h
theorem ArRs.length {K : PySem.W.Frag} {O : List (Option Addr)} {H : Hp} : ∀ {rs : List Rv} {vs : List V}, ArRs K O H rs vs → rs.length = vs.length
  | [], [], _ => rfl
  | r :: rs, v :: vs, h => by rw [List.length_cons, List.length_cons, ArRs.length h.2]
  | [], _ :: _, h => h.elim
  | _ :: _, [], h => h.elim
def tXA (K : PySem.W.Frag) (f : MA) : TA := fun σ H Q => ∃ ρ O cs rs cs', f ρ cs = some (rs, cs') ∧ EnvOk K O H ρ σ ∧ Wd K O cs H ∧ ∀ vs H', Ch O H H' → Wd K O cs' H' → ArRs K O H' rs vs → Q vs H'
def XA (X : Cx) (f : MA) (es : List Expr) : Prop := PA X es (tXA X.K f)

/-- from H on, by H1 -/
theorem PostX.step {K : PySem.W.Frag} {O : List (Option Addr)} {H H1 : Hp} {cs1 : Cs} {r : Rv} {cs' : Cs} {Q : VK} (h : PostX K O H r cs' Q) (c : Ch O H H1) (w1 : Wd K O cs1 H1) : PostX K O H1 r cs' Q := fun v H' c' w' rv =>
  h v H' (c.trans c') w' (by
    cases r with
    | dat d => exact rv
    | own k => exact rv
    | fr l =>
      obtain ⟨p, e, hp, q⟩ := rv
      refine ⟨p, e, ?_, q⟩
      cases z : H p with
      | none => rfl
      | some o =>
        have := c p o (w1.fresh hp) z
        rw [hp] at this; cases this)
theorem Pst.step {K : PySem.W.Frag} {O : List (Option Addr)} {H H1 : Hp} {cs' : Cs} {Q : Hp → Prop} (h : Pst K O H cs' Q) (c : Ch O H H1) : Pst K O H1 cs' Q := fun H' c' w' => h H' (c.trans c') w'

section
variable {X : Cx}
/-! names, constants -/
def xVar (i : Nat) : ME := fun ρ cs => (ρ[i]?.join).map fun r => (r, cs)
theorem xe_var {i : Nat} {x : Str} {pos : Pos} (hN : X.N[i]? = some x) (hv : Vis X.env.scope x) (hd : (x == ("__debug__" : Str)) = false := by decide) (hcd : (x == ("__classdict__" : Str)) = false := by decide) : XE X (xVar i) (.Name x pos) := by
  refine pe_weak (pe_var hN hv hd hcd) fun σ H Q ⟨ρ, O, cs, r, cs', e, en, w, p⟩ => ?_
  unfold xVar at e
  cases q : ρ[i]? with
  | none => rw [q] at e; cases e
  | some o =>
    rw [q] at e
    cases o with
    | none => cases e
    | some r' =>
      obtain ⟨v, h1, h2⟩ := en.slot i r' q
      cases e
      refine ⟨v, h1, p v H .refl w ?_⟩
      cases r with
      | dat d => exact h2
      | own k => exact h2
      | fr c => exact h2.elim
def xC (d : D) : ME := fun _ cs => some (.dat d, cs)
theorem xe_const {e : Expr} {v : V} {d : D} (h : PE X e (tC v)) (r : ∀ K H, Rp K H v d) : XE X (xC d) e := by
  refine pe_weak h fun σ H Q ⟨ρ, O, cs, r', cs', e, en, w, p⟩ => ?_
  cases e
  exact p v H .refl w (r _ _)
theorem xe_int {i j pos} : XE X (xC (.int i)) (.Constant (.int i) j pos) := xe_const pe_int fun _ _ => .int i
theorem xe_bl {i j pos} : XE X (xC (.bool i)) (.Constant (.bool i) j pos) := xe_const pe_bl fun _ _ => .bl i
theorem xe_non {j pos} : XE X (xC .none) (.Constant .none j pos) := xe_const pe_non fun _ _ => .non
theorem xe_str {i j pos} (h : i.length ≤ sizeLine := by decide +kernel) : XE X (xC (.str i)) (.Constant (.str i) j pos) := xe_const pe_str fun _ _ => .str i h
theorem xe_gint {x : Str} {i : Int} {t : Tok} {pos : Pos} (hg : Gl X x) (hm : X.mg x = some (.int i t)) (hd : (x == ("__debug__" : Str)) = false := by decide) : XE X (xC (.int i)) (.Name x pos) := xe_const (v := .int i) (pe_glob hg hm ⟨t, rfl⟩ hd) fun _ _ => .int i
theorem xe_gstr {x z : Str} {t : Tok} {pos : Pos} (hg : Gl X x) (hm : X.mg x = some (.str z t)) (hd : (x == ("__debug__" : Str)) = false := by decide) (h : z.length ≤ sizeLine := by decide +kernel) : XE X (xC (.str z)) (.Name x pos) := xe_const (v := .str z) (pe_glob hg hm ⟨t, rfl⟩ hd) fun _ _ => .str z h

/-! two-place operations -/
def OpS (K : PySem.W.Frag) (r : R2) (g : D → D → Option Rv) : Prop := ∀ (O : List (Option Addr)) (cs : Cs) (H : Hp) (x y : V) (d e : D) (z : Rv) (Q : VK), Wd K O cs H → Sh K O H x d → Sh K O H y e → g d e = some z → PostX K O H z cs Q → r x y H Q
def mB (g : D → D → Option Rv) (fa fb : ME) : ME := fun ρ cs => (fa ρ cs).bind fun p => (fb ρ p.2).bind fun q => (rd (deg p.1) q.2).bind fun d => (rd (deg q.1) q.2).bind fun e => (g d e).map fun z => (z, q.2)
theorem mB_some {g : D → D → Option Rv} {fa fb : ME} {ρ : Rho} {cs cs' : Cs} {z : Rv} (h : mB g fa fb ρ cs = some (z, cs')) :
    ∃ x cs1 y d e, fa ρ cs = some (x, cs1) ∧ fb ρ cs1 = some (y, cs') ∧ rd (deg x) cs' = some d ∧ rd (deg y) cs' = some e ∧ g d e = some z := by
  unfold mB at h
  obtain ⟨⟨x, cs1⟩, h1, h⟩ := Option.bind_eq_some_iff.mp h
  obtain ⟨⟨y, cs2⟩, h2, h⟩ := Option.bind_eq_some_iff.mp h
  obtain ⟨d, h3, h⟩ := Option.bind_eq_some_iff.mp h
  obtain ⟨e, h4, h⟩ := Option.bind_eq_some_iff.mp h
  obtain ⟨z', h5, h⟩ := Option.map_eq_some_iff.mp h
  cases h
  exact ⟨x, cs1, y, d, e, h1, h2, h3, h4, h5⟩
theorem tOp_of {K : PySem.W.Frag} {r : R2} {g : D → D → Option Rv} {fa fb : ME} (hs : OpS K r g) {σ : L2.St} {H : Hp} {Q : VK} (h : tX K (mB g fa fb) σ H Q) : tOp r (tX K fa) (tX K fb) σ H Q := by
  obtain ⟨ρ, O, cs, z, cs', e, en, w, p⟩ := h
  obtain ⟨x, cs1, y, d, e', h1, h2, h3, h4, h5⟩ := mB_some e
  refine ⟨ρ, O, cs, x, cs1, h1, en, w, fun v1 H1 c1 w1 r1 => ?_⟩
  refine ⟨ρ, O, cs1, y, cs', h2, en.ch c1, w1, fun v2 H2 c2 w2 r2 => ?_⟩
  exact hs O cs' H2 v1 v2 d e' z Q w2 ((r1.deg.ch c2).sh w2 h3) (r2.deg.sh w2 h4) h5 (p.step (c1.trans c2) w2)
theorem xe_bin {op : Operator} {r : R2} {g : D → D → Option Rv} {a b : Expr} {fa fb : ME} {pos : Pos} (ho : OpR X (binaryOp op) r) (hs : OpS X.K r g) (ha : XE X fa a) (hb : XE X fb b) : XE X (mB g fa fb) (.BinOp a op b pos) :=
  pe_weak (pe_op ho ha hb) fun σ H Q h => tOp_of hs h
theorem xe_cmp {op : CmpOp} {r : R2} {g : D → D → Option Rv} {a b : Expr} {fa fb : ME} {pos : Pos} (ho : OpR X (compareOp op) r) (hs : OpS X.K r g) (ha : XE X fa a) (hb : XE X fb b) (hm : behindInMarks op b = false := by first | exact nobehind _ (by decide) (by decide) | rfl) :
    XE X (mB g fa fb) (.Compare a [op] [b] pos) := pe_weak (pe_cmpR ho ha hb hm) fun σ H Q h => tOp_of hs h
theorem xe_ix {r : R2} {g : D → D → Option Rv} {a b : Expr} {fa fb : ME} {pos : Pos} (ho : IxR X r) (hs : OpS X.K r g) (ha : XE X fa a) (hb : XE X fb b) (hp : PlainIx b := by exact fun _ _ => rfl) : XE X (mB g fa fb) (.Subscript a b pos) :=
  pe_weak (pe_ix ho ha hb hp) fun σ H Q h => tOp_of hs h
def mU (g : D → Option Rv) (fa : ME) : ME := fun ρ cs => (fa ρ cs).bind fun p => (rd (deg p.1) p.2).bind fun d => (g d).map fun z => (z, p.2)
theorem mU_some {g : D → Option Rv} {fa : ME} {ρ : Rho} {cs cs' : Cs} {z : Rv} (h : mU g fa ρ cs = some (z, cs')) : ∃ x d, fa ρ cs = some (x, cs') ∧ rd (deg x) cs' = some d ∧ g d = some z := by
  unfold mU at h
  obtain ⟨⟨x, cs1⟩, h1, h⟩ := Option.bind_eq_some_iff.mp h
  obtain ⟨d, h3, h⟩ := Option.bind_eq_some_iff.mp h
  obtain ⟨z', h5, h⟩ := Option.map_eq_some_iff.mp h
  cases h
  exact ⟨x, d, h1, h3, h5⟩
def UnS (K : PySem.W.Frag) (r : V → Hp → VK → Prop) (g : D → Option Rv) : Prop := ∀ (O : List (Option Addr)) (cs : Cs) (H : Hp) (x : V) (d : D) (z : Rv) (Q : VK), Wd K O cs H → Sh K O H x d → g d = some z → PostX K O H z cs Q → r x H Q
theorem xe_un {op : UnaryOp} {r : V → Hp → VK → Prop} {g : D → Option Rv} {a : Expr} {fa : ME} {pos : Pos} (ho : UnR X (unaryOp op) r) (hs : UnS X.K r g) (ha : XE X fa a) : XE X (mU g fa) (.UnaryOp op a pos) :=
  pe_weak (pe_un ho ha) fun σ H Q ⟨ρ, O, cs, z, cs', e, en, w, p⟩ => by
    obtain ⟨x, d, h1, h2, h3⟩ := mU_some e
    exact ⟨ρ, O, cs, x, cs', h1, en, w, fun v1 H1 c1 w1 r1 => hs O cs' H1 v1 d z Q w1 (r1.deg.sh w1 h2) h3 (p.step c1 w1)⟩

/-! arguments -/
def aNil : MA := fun _ cs => some ([], cs)
def aCons (fa : ME) (fr : MA) : MA := fun ρ cs => (fa ρ cs).bind fun p => (fr ρ p.2).map fun q => (deg p.1 :: q.1, q.2)
theorem xa_nil : XA X aNil [] := ⟨fun pos pins s σ H Q I ⟨ρ, O, cs, rs, cs', e, en, w, p⟩ => by
  cases e
  exact pa_nil.run pos pins s σ H Q I (p [] H .refl w trivial)⟩
theorem pa_weak {es : List Expr} {t t' : TA} (h : PA X es t) (w : ∀ σ H Q, t' σ H Q → t σ H Q) : PA X es t' := ⟨fun pos pins s σ H Q I q => h.run pos pins s σ H Q I (w _ _ _ q)⟩
theorem aCons_some {fa : ME} {fr : MA} {ρ : Rho} {cs cs' : Cs} {rs : List Rv} (h : aCons fa fr ρ cs = some (rs, cs')) : ∃ x cs1 r, fa ρ cs = some (x, cs1) ∧ fr ρ cs1 = some (r, cs') ∧ rs = deg x :: r := by
  unfold aCons at h
  obtain ⟨⟨x, cs1⟩, h1, h⟩ := Option.bind_eq_some_iff.mp h
  obtain ⟨⟨r, cs2⟩, h2, h⟩ := Option.map_eq_some_iff.mp h
  cases h
  exact ⟨x, cs1, r, h1, h2, rfl⟩
theorem tCons_of {K : PySem.W.Frag} {fa : ME} {fr : MA} {σ : L2.St} {H : Hp} {Q : List V → Hp → Prop} (h : tXA K (aCons fa fr) σ H Q) : tCons (tX K fa) (tXA K fr) σ H Q := by
  obtain ⟨ρ, O, cs, rs, cs', e, en, w, p⟩ := h
  obtain ⟨x, cs1, r, h1, h2, rfl⟩ := aCons_some e
  refine ⟨ρ, O, cs, x, cs1, h1, en, w, fun v1 H1 c1 w1 r1 => ?_⟩
  exact ⟨ρ, O, cs1, r, cs', h2, en.ch c1, w1, fun vs H2 c2 w2 r2 => p _ _ (c1.trans c2) w2 ⟨r1.deg.ch c2, r2⟩⟩
theorem xa_cons {e : Expr} {es : List Expr} {fa : ME} {fr : MA} (ha : XE X fa e) (hr : XA X fr es) (hs : starEach (e :: es) X.env = (false, eval e X.env) :: starEach es X.env := by rfl) : XA X (aCons fa fr) (e :: es) :=
  pa_weak (pa_cons ha hr hs) fun σ H Q h => tCons_of h
/-- a consumer of arguments -/
def CaS (K : PySem.W.Frag) (r : List V → Hp → VK → Prop) (g : List D → Option Rv) : Prop := ∀ (O : List (Option Addr)) (cs : Cs) (H : Hp) (vs : List V) (ds : List D) (z : Rv) (Q : VK), Wd K O cs H → Paired (Sh K O H) vs ds → g ds = some z → PostX K O H z cs Q → r vs H Q
def rdAll : List Rv → Cs → Option (List D)
  | [], _ => some []
  | r :: rs, cs => (rd r cs).bind fun d => (rdAll rs cs).map fun ds => d :: ds
theorem ArRs.sh {K : PySem.W.Frag} {O : List (Option Addr)} {H : Hp} {cs : Cs} (w : Wd K O cs H) : ∀ {rs : List Rv} {vs : List V} {ds : List D}, ArRs K O H rs vs → rdAll rs cs = some ds → Paired (Sh K O H) vs ds
  | [], [], ds, _, e => by cases e; exact .nil
  | r :: rs, v :: vs, ds, h, e => by
    unfold rdAll at e
    obtain ⟨d, h1, e⟩ := Option.bind_eq_some_iff.mp e
    obtain ⟨ds', h2, e⟩ := Option.map_eq_some_iff.mp e
    subst e
    exact .cons (h.1.sh w h1) (ArRs.sh w h.2 h2)
  | [], _ :: _, _, h, _ => h.elim
  | _ :: _, [], _, h, _ => h.elim
def mCall (g : List D → Option Rv) (fa : MA) : ME := fun ρ cs => (fa ρ cs).bind fun p => (rdAll p.1 p.2).bind fun ds => (g ds).map fun z => (z, p.2)
theorem mCall_some {g : List D → Option Rv} {fa : MA} {ρ : Rho} {cs cs' : Cs} {z : Rv} (h : mCall g fa ρ cs = some (z, cs')) : ∃ rs ds, fa ρ cs = some (rs, cs') ∧ rdAll rs cs' = some ds ∧ g ds = some z := by
  unfold mCall at h
  obtain ⟨⟨x, cs1⟩, h1, h⟩ := Option.bind_eq_some_iff.mp h
  obtain ⟨d, h3, h⟩ := Option.bind_eq_some_iff.mp h
  obtain ⟨z', h5, h⟩ := Option.map_eq_some_iff.mp h
  cases h
  exact ⟨x, d, h1, h3, h5⟩
theorem tCB_of {K : PySem.W.Frag} {r : List V → Hp → VK → Prop} {g : List D → Option Rv} {fa : MA} (hs : CaS K r g) {σ : L2.St} {H : Hp} {Q : VK} (h : tX K (mCall g fa) σ H Q) : tCB r (tXA K fa) σ H Q := by
  obtain ⟨ρ, O, cs, z, cs', e, en, w, p⟩ := h
  obtain ⟨rs, ds, h1, h2, h3⟩ := mCall_some e
  exact ⟨ρ, O, cs, rs, cs', h1, en, w, fun vs H1 c1 w1 r1 => hs O cs' H1 vs ds z Q w1 (r1.sh w1 h2) h3 (p.step c1 w1)⟩
theorem xe_callB {id : String} {r : List V → Hp → VK → Prop} {g : List D → Option Rv} {x : Str} {e : Expr} {es : List Expr} {fa : MA} {p pos : Pos} (hc : CallR X (.builtin id) r) (hs : CaS X.K r g) (hg : Gl X x) (hm : X.mg x = none) (hv : bootBuiltins x = some (.builtin id)) (ha : XA X fa (e :: es))
    (hn : x ≠ "__name__" := by decide) (hdb : (x == ("__debug__" : Str)) = false := by decide)
    (he : starEach (e :: es) X.env = (false, eval e X.env) :: starEach es X.env := by rfl) (hpl : (backTo pos (starEach es X.env)).any (·.1) = false := by rfl) : XE X (mCall g fa) (.Call (.Name x p) (e :: es) [] pos) :=
  pe_weak (pe_callB hc hg hm hv ha hn hdb he hpl) fun σ H Q h => tCB_of hs h
theorem xe_callTy {T : String} {r : List V → Hp → VK → Prop} {g : List D → Option Rv} {x : Str} {e : Expr} {es : List Expr} {fa : MA} {p pos : Pos} (hc : CallR X (.type T) r) (hs : CaS X.K r g) (hg : Gl X x) (hm : X.mg x = none) (hv : bootBuiltins x = some (.type T)) (ha : XA X fa (e :: es))
    (hn : x ≠ "__name__" := by decide) (hdb : (x == ("__debug__" : Str)) = false := by decide)
    (he : starEach (e :: es) X.env = (false, eval e X.env) :: starEach es X.env := by rfl) (hpl : (backTo pos (starEach es X.env)).any (·.1) = false := by rfl) : XE X (mCall g fa) (.Call (.Name x p) (e :: es) [] pos) :=
  pe_weak (pe_callTy hc hg hm hv ha hn hdb he hpl) fun σ H Q h => tCB_of hs h
/-! displays: what is put in is data -/
def datAll : List Rv → Option (List D)
  | [] => some []
  | .dat d :: rs => (datAll rs).map fun ds => d :: ds
  | _ :: _ => none
theorem datAll_rp {K : PySem.W.Frag} {O : List (Option Addr)} {H : Hp} : ∀ {rs : List Rv} {vs : List V} {ds : List D}, ArRs K O H rs vs → datAll rs = some ds → RpAll K (hd O H) vs ds
  | [], [], ds, _, e => by cases e; exact .nil
  | .dat d :: rs, v :: vs, ds, h, e => by
    unfold datAll at e
    obtain ⟨ds', h2, e⟩ := Option.map_eq_some_iff.mp e
    subst e
    exact .cons h.1 (datAll_rp h.2 h2)
  | .own _ :: _, _ :: _, _, _, e => by cases e
  | .fr _ :: _, _ :: _, _, _, e => by cases e
  | [], _ :: _, _, h, _ => h.elim
  | _ :: _, [], _, h, _ => h.elim
def mDisp (g : List D → Rv) (fa : MA) : ME := fun ρ cs => (fa ρ cs).bind fun p => (datAll p.1).bind fun ds => if ds.length ≤ sizeLine then some (g ds, p.2) else none
theorem mDisp_some {g : List D → Rv} {fa : MA} {ρ : Rho} {cs cs' : Cs} {z : Rv} (h : mDisp g fa ρ cs = some (z, cs')) : ∃ rs ds, fa ρ cs = some (rs, cs') ∧ datAll rs = some ds ∧ ds.length ≤ sizeLine ∧ g ds = z := by
  unfold mDisp at h
  obtain ⟨⟨x, cs1⟩, h1, h⟩ := Option.bind_eq_some_iff.mp h
  obtain ⟨d, h3, h⟩ := Option.bind_eq_some_iff.mp h
  split at h
  · cases h
    exact ⟨x, d, h1, h3, by assumption, rfl⟩
  · cases h
def xLst (fa : MA) : ME := mDisp .fr fa
def xTup (fa : MA) : ME := mDisp (fun ds => .dat (.tuple ds)) fa
theorem xe_lst {es : List Expr} {fa : MA} {pos : Pos} (ha : XA X fa es) : XE X (xLst fa) (.List es pos) :=
  pe_weak (pe_lst ha) fun σ H Q ⟨ρ, O, cs, z, cs', e, en, w, p⟩ => by
    obtain ⟨rs, ds, h1, h2, h3, rfl⟩ := mDisp_some e
    refine ⟨ρ, O, cs, rs, cs', h1, en, w, fun vs H1 c1 w1 r1 => ?_⟩
    have ra := datAll_rp r1 h2
    exact ⟨by rw [ra.length]; exact h3, post_list w1 ra (p.step c1 w1)⟩
theorem xe_tup {es : List Expr} {fa : MA} {pos : Pos} {x1} (ha : XA X fa es) : XE X (xTup fa) (.Tuple es x1 pos) :=
  pe_weak (pe_tup ha) fun σ H Q ⟨ρ, O, cs, z, cs', e, en, w, p⟩ => by
    obtain ⟨rs, ds, h1, h2, h3, rfl⟩ := mDisp_some e
    refine ⟨ρ, O, cs, rs, cs', h1, en, w, fun vs H1 c1 w1 r1 => ?_⟩
    have ra := datAll_rp r1 h2
    exact ⟨by rw [ra.length]; exact h3, post_tup w1 ra (p.step c1 w1)⟩

/-! truth, tests -/
def tru : D → Option Bool
  | .none => some false
  | .bool b => some b
  | .int i => some (i != 0)
  | .str x => some ((x.length : Int) != 0)
  | .list ds => some (!ds.isEmpty)
  | .tuple ds => some (!ds.isEmpty)
  | .dict ds => some (!ds.isEmpty)
theorem isEmpty_rp {K : PySem.W.Frag} {H : Hp} {vs : List V} {ds : List D} (r : RpAll K H vs ds) : vs.isEmpty = ds.isEmpty := by cases r <;> rfl
theorem tru_v {K : PySem.W.Frag} {O : List (Option Addr)} {H : Hp} {v : V} {d : D} {k : Bool} (h : Sh K O H v d) (e : tru d = some k) (hd : ∀ ds, d ≠ .dict ds) : TruV K v H k := by
  cases d with
  | none => cases h.none; cases e; rfl
  | bool b => cases h.bool; cases e; rfl
  | int i => cases h.int; cases e; rfl
  | str x => obtain ⟨rfl, hz⟩ := h.str; cases e; exact ⟨hz, rfl⟩
  | list ds =>
    obtain ⟨a, vs, rfl, q, r⟩ := h.list
    cases e
    exact .inl ⟨vs, q.sq, by rw [isEmpty_rp r]⟩
  | tuple ds =>
    obtain ⟨a, vs, rfl, q, r⟩ := h.tuple
    cases e
    exact .inr (.inl ⟨vs, .inl q, by rw [isEmpty_rp r]⟩)
  | dict ds => exact absurd rfl (hd ds)
/-- a value's truth as the machine tells it (no dict) -/
def truD : D → Option Bool
  | .dict _ => none
  | d => tru d
theorem truD_v {K : PySem.W.Frag} {O : List (Option Addr)} {H : Hp} {v : V} {d : D} {k : Bool} (h : Sh K O H v d) (e : truD d = some k) : TruV K v H k := by
  cases d with
  | dict ds => cases e
  | _ => exact tru_v h e (fun _ z => by cases z)
def mTru (fa : ME) : MT := fun ρ cs => (fa ρ cs).bind fun p => (rd (deg p.1) p.2).bind fun d => (truD d).map fun k => (k, p.2)
theorem mTru_some {fa : ME} {ρ : Rho} {cs cs' : Cs} {k : Bool} (h : mTru fa ρ cs = some (k, cs')) : ∃ x d, fa ρ cs = some (x, cs') ∧ rd (deg x) cs' = some d ∧ truD d = some k := by
  unfold mTru at h
  obtain ⟨⟨x, cs1⟩, h1, h⟩ := Option.bind_eq_some_iff.mp h
  obtain ⟨d, h3, h⟩ := Option.bind_eq_some_iff.mp h
  obtain ⟨z', h5, h⟩ := Option.map_eq_some_iff.mp h
  cases h
  exact ⟨x, d, h1, h3, h5⟩
theorem xt_of {a : Expr} {fa : ME} (ha : XE X fa a) (he : ∀ whole, isTrue a X.env whole = (do let v ← whole; standAt a.pos; holding [v] (truthy v)) := by intro _; rfl) : XT X (mTru fa) a :=
  pt_weak (pt_truth ha he) fun σ H Q ⟨ρ, O, cs, k, cs', e, en, w, p⟩ => by
    obtain ⟨x, d, h1, h2, h3⟩ := mTru_some e
    exact ⟨ρ, O, cs, x, cs', h1, en, w, fun v1 H1 c1 w1 r1 => ⟨k, truD_v (r1.deg.sh w1 h2) h3, p H1 c1 w1⟩⟩
end
end DL
namespace DL
open PySem PySem.Spec PyProof.Rows L2

/-! ### operations by data -/
abbrev di (i : Int) : Rv := .dat (.int i)
abbrev db (b : Bool) : Rv := .dat (.bool b)
/-- room in C's stack -/
structure Rm (X : Cx) : Prop where
  hd : X.A.handled = none
  un : X.A.units + 200 < cLine
  gd : X.A.guards = some []
  calm : X.calm = true
  nd : X.base.NoDigits
section
variable {X : Cx}
theorem lst_rd {pins : List (Addr × Obj)} {s : Shared} {σ : L2.St} {H : Hp} (I : Inv X pins σ H s) {a : Addr} {xs : List V} (q : LstAt X.K H a xs) : xs.length ≤ sizeLine ∧ ∃ (its : List Value) (n : Nat), Vals xs its ∧ s.heap.get? a = some { cls := .type "list", data := .seq its.toArray n } := by
  rcases q with q | ⟨its, n, h1, h2, h3⟩
  · exact q.ok I.hok
  · exact ⟨h2, its, n, h3, I.kIn a _ h1⟩
theorem OpS.or_l {K : PySem.W.Frag} {r r' : R2} {g : D → D → Option Rv} (h : OpS K r g) : OpS K (fun x y H Q => r x y H Q ∨ r' x y H Q) g := fun O cs H x y d e z Q w a b c p => .inl (h O cs H x y d e z Q w a b c p)
theorem ite_some {α : Type} {c : Prop} [Decidable c] {a b : α} (h : (if c then some a else none) = some b) : c ∧ a = b := by
  split at h
  · exact ⟨by assumption, Option.some.inj h⟩
  · cases h
/-- + -/
def dAdd : D → D → Option Rv
  | .int i, .int j => some (di (i + j))
  | .str x, .str y => if x.length + y.length ≤ sizeLine then some (.dat (.str (x ++ y))) else none
  | .list x, .list y => if x.length + y.length ≤ sizeLine then some (.fr (x ++ y)) else none
  | .tuple x, .tuple y => if x.length + y.length ≤ sizeLine then some (.dat (.tuple (x ++ y))) else none
  | _, _ => none
def rCatL (K : PySem.W.Frag) : R2 := fun x y H Q => ∃ l b xs zs, x = .ref l ∧ y = .ref b ∧ LstAt K H l xs ∧ LstAt K H b zs ∧ xs.length + zs.length ≤ sizeLine ∧ ∀ p, H p = none → Q (.ref p) (upd H p (.lst (xs ++ zs)))
theorem op_catL : OpR X (binaryOp .Add) (rCatL X.K) := by
  intro pins s σ H x y v u Q I rx ry h
  obtain ⟨l, b, xs, zs, rfl, rfl, h1, h2, hz, q⟩ := h
  cases rx
  cases ry
  obtain ⟨_, its, n, r, e⟩ := lst_rd I h1
  obtain ⟨_, its2, n2, r2, e2⟩ := lst_rd I h2
  have hl := r.length
  have hl2 := r2.length
  refine PySem.P.add_list e e2 ?_ (by rw [List.size_toArray, List.size_toArray]; omega)
  have ea : its.toArray ++ its2.toArray = (its ++ its2).toArray := by simp
  rw [ea]
  exact ⟨.ref _, _, I.lnew (t' := s.toks) (r.append r2) (by rw [List.length_append]; omega), rfl, q _ I.fresh⟩
def rAddD (K : PySem.W.Frag) : R2 := fun x y H Q => (rI0 (fun i j => .int (i + j)) x y H Q ∨ (∃ i j, x = .str i ∧ y = .str j ∧ i.length + j.length ≤ sizeLine ∧ Q (.str (i ++ j)) H)) ∨ rCatL K x y H Q ∨ rCatA K x y H Q
theorem op_addD : OpR X (binaryOp .Add) (rAddD X.K) := OpR.or (OpR.or op_add op_add_str) (OpR.or op_catL op_catA)
theorem str_len (x y : Str) : (x ++ y).length = x.length + y.length := by
  show (x.cps ++ y.cps).size = x.cps.size + y.cps.size
  exact Array.size_append
theorem addS {K : PySem.W.Frag} : OpS K (rAddD K) dAdd := by
  intro O cs H x y d e z Q w sx sy g p
  cases d with
  | int i =>
    cases e with
    | int j =>
      cases g
      exact .inl (.inl ⟨i, j, sx.int, sy.int, post_int w p⟩)
    | _ => cases g
  | str i =>
    cases e with
    | str j =>
      obtain ⟨rfl, h1⟩ := sx.str
      obtain ⟨rfl, h2⟩ := sy.str
      obtain ⟨hz, rfl⟩ := ite_some g
      exact .inl (.inr ⟨i, j, rfl, rfl, hz, post_str w (by rw [str_len]; exact hz) p⟩)
    | _ => cases g
  | list ds =>
    cases e with
    | list es =>
      obtain ⟨a, vs, rfl, q1, r1⟩ := sx.list
      obtain ⟨b, us, rfl, q2, r2⟩ := sy.list
      obtain ⟨hz, rfl⟩ := ite_some g
      exact .inr (.inl ⟨a, b, vs, us, rfl, rfl, q1, q2, by rw [r1.length, r2.length]; exact hz, post_list w (r1.append r2) p⟩)
    | _ => cases g
  | tuple ds =>
    cases e with
    | tuple es =>
      have sx' := sx
      have sy' := sy
      obtain ⟨a, vs, rfl, q1, r1⟩ := sx.tuple
      obtain ⟨b, us, rfl, q2, r2⟩ := sy.tuple
      obtain ⟨hz, rfl⟩ := ite_some g
      · refine .inr (.inr ⟨a, b, vs, us, rfl, rfl, .inl q1, .inl q2, by rw [r1.length, r2.length]; exact hz, fun e => ?_, fun _ e => ?_, fun _ _ => post_tup w (r1.append r2) p⟩)
        · subst e
          cases r1
          rcases sy' with sy' | ⟨_, _, _, _, h, _⟩
          · exact post_val w sy' p
          · cases h
        · subst e
          cases r2
          rcases sx' with sx' | ⟨_, _, _, _, h, _⟩
          · exact post_val w sx' (by simpa using p)
          · cases h
    | _ => cases g
  | _ => cases g
/-- ints alone -/
def dI (g : Int → Int → Option Rv) : D → D → Option Rv
  | .int i, .int j => g i j
  | _, _ => none
theorem intS {K : PySem.W.Frag} {C : Int → Int → Prop} [∀ i j, Decidable (C i j)] {f : Int → Int → Int} : OpS K (rI C fun i j => .int (f i j)) (dI fun i j => if C i j then some (di (f i j)) else none) := by
  intro O cs H x y d e z Q w sx sy g p
  cases d with
  | int i =>
    cases e with
    | int j =>
      change (if C i j then some (di (f i j)) else none) = some z at g
      obtain ⟨hz, rfl⟩ := ite_some g
      exact ⟨i, j, sx.int, sy.int, hz, post_int w p⟩
    | _ => cases g
  | _ => cases g
theorem intS0 {K : PySem.W.Frag} {f : Int → Int → Int} : OpS K (rI0 fun i j => .int (f i j)) (dI fun i j => some (di (f i j))) := by
  intro O cs H x y d e z Q w sx sy g p
  cases d with
  | int i =>
    cases e with
    | int j =>
      cases g
      exact ⟨i, j, sx.int, sy.int, post_int w p⟩
    | _ => cases g
  | _ => cases g
def dSub := dI fun i j => some (di (i - j))
theorem subS {K : PySem.W.Frag} : OpS K (rI0 fun i j => .int (i - j)) dSub := intS0
def dMod := dI fun i j => if j ≠ 0 then some (di (i.fmod j)) else none
theorem modS {K : PySem.W.Frag} : OpS K (rI (fun _ j => j ≠ 0) fun i j => .int (i.fmod j)) dMod := intS
/-- // -/
def CDv (_ j : Int) : Prop := j ≠ 0 ∧ j.natAbs.log2 < 9000
instance (i j : Int) : Decidable (CDv i j) := inferInstanceAs (Decidable (_ ∧ _))
theorem op_fdv : OpR X (binaryOp .FloorDiv) (rI CDv fun i j => .int (i.fdiv j)) := opI fun i j _ _ _ _ _ hc q => floordiv_int hc.1 q (.inl (PyProof.noPylong_of_log2 hc.2))
def dDiv := dI fun i j => if CDv i j then some (di (i.fdiv j)) else none
theorem divS {K : PySem.W.Frag} : OpS K (rI CDv fun i j => .int (i.fdiv j)) dDiv := intS
/-- ** -/
def CPw (i j : Int) : Prop := 0 ≤ j ∧ (Builtin.Int.intBits i : Int) * j ≤ 2 ^ 27
instance (i j : Int) : Decidable (CPw i j) := inferInstanceAs (Decidable (_ ∧ _))
theorem op_pw : OpR X (binaryOp .Pow) (rI CPw fun i j => .int (i ^ j.toNat)) := opI fun i j _ _ _ _ _ hc q => pow_int hc.1 hc.2 q
def dPow := dI fun i j => if CPw i j then some (di (i ^ j.toNat)) else none
theorem powS {K : PySem.W.Frag} : OpS K (rI CPw fun i j => .int (i ^ j.toNat)) dPow := intS
/-- * -/
def CMl (i j : Int) : Prop := i.natAbs.log2 + j.natAbs.log2 < 100000000
instance (i j : Int) : Decidable (CMl i j) := inferInstanceAs (Decidable (_ < _))
theorem CMl.ok {i j : Int} (h : CMl i j) : IntMulOk i j := by
  have bb : ∀ x : Int, Builtin.Int.intBits x ≤ x.natAbs.log2 + 1 := fun x => by
    unfold Builtin.Int.intBits
    split <;> omega
  have h1 := bb i
  have h2 := bb j
  have h3 : i.natAbs.log2 + j.natAbs.log2 < 100000000 := h
  have el : bitsLine = 134217728 := by decide
  intro zz
  rw [Bool.and_eq_true] at zz
  have z2 := zz.2
  unfold Builtin.Int.intTooBig at z2
  have z3 := of_decide_eq_true z2
  rw [el] at z3
  omega
theorem op_ml : OpR X (binaryOp .Mult) (rI CMl fun i j => .int (i * j)) := opI fun _ _ _ _ _ _ _ hc q => mul_int q hc.ok
def rRepL : R2 := fun x y H Q => ∃ l k xs, x = .ref l ∧ y = .int k ∧ H l = some (.lst xs) ∧ -(2 ^ 63) ≤ k ∧ k < 2 ^ 63 ∧ xs.length * k.toNat ≤ sizeLine ∧
  ∀ p, H p = none → Q (.ref p) (upd H p (.lst (List.replicate k.toNat xs).flatten))
def rMlS : R2 := fun x y H Q => ∃ (z : Str) (k : Int), x = .str z ∧ y = .int k ∧ 0 ≤ k ∧ k < 2 ^ 31 ∧ z.length * k.toNat ≤ 16777216 ∧ Q (.str (Txt.mul z k)) H
theorem tooLong_ok {n : Nat} (h : n ≤ 16777216) : Builtin.Str.tooLong n = false := by
  unfold Builtin.Str.tooLong
  rw [decide_eq_false_iff_not, sizeLine_eq]
  omega
theorem op_mlS : OpR X (binaryOp .Mult) rMlS := by
  intro pins s σ H x y v u Q I rx ry h
  obtain ⟨z, k, rfl, rfl, h0, h1, h2, q⟩ := h
  obtain ⟨t, rfl⟩ := rx
  obtain ⟨t', rfl⟩ := ry
  refine PySem.SB.mul ⟨?_, fun _ _ => ?_, fun _ _ => tooLong_ok h2⟩ fun t2 k2 => ⟨.str _, H, I.tok _, ⟨_, rfl⟩, q⟩
  · rw [decide_eq_false (by omega), decide_eq_false (by omega)]; rfl
  · have hk : 1 ≤ k := by omega
    have hz : (z.length : Int) * k ≤ 16777216 := by
      have h3 : ((z.length * k.toNat : Nat) : Int) ≤ 16777216 := Int.ofNat_le.mpr h2
      rw [Int.natCast_mul, Int.toNat_of_nonneg h0] at h3
      exact h3
    have h4 : (z.length : Int) ≤ (z.length : Int) * k := by
      have := Int.mul_le_mul_of_nonneg_left hk (Int.natCast_nonneg z.length)
      simpa using this
    have h5 : (4294967296 : Int) ≤ (2 ^ 63 - 1) / k := by
      rw [Int.le_ediv_iff_mul_le (by omega)]
      omega
    omega
end
end DL
namespace DL
open PySem PySem.Spec PyProof.Rows L2
section
variable {X : Cx}
/-! comparisons -/
/-- by data: C what is asked -/
def rD (K : PySem.W.Frag) (C : D → D → Prop) (g : D → D → Bool) : R2 := fun x y H Q => ∃ d e, Rp K H x d ∧ Rp K H y e ∧ C d e ∧ Q (.bl (g d e)) H
theorem dS {K : PySem.W.Frag} {C : D → D → Prop} [∀ d e, Decidable (C d e)] {g : D → D → Bool} : OpS K (rD K C g) (fun d e => if C d e then some (db (g d e)) else none) := by
  intro O cs H x y d e z Q w sx sy h p
  obtain ⟨hc, rfl⟩ := ite_some h
  exact ⟨d, e, sx.rp, sy.rp, hc, post_bool w p⟩
def CEq (d e : D) : Prop := d.plain = true ∧ e.plain = true ∧ min d.depth e.depth ≤ 100
instance (d e : D) : Decidable (CEq d e) := inferInstanceAs (Decidable (_ ∧ _))
theorem op_eqD' (rm : Rm X) : OpR X (compareOp .Eq) (rD X.K CEq PyData.eqv) := by
  intro pins s σ H x y v u Q I rx ry h
  obtain ⟨d, e, hd, he, hc, q⟩ := h
  obtain ⟨as, r1⟩ := hd.reads I _ rx
  obtain ⟨bs, r2⟩ := he.reads I _ ry
  have hu := rm.un
  have := hc.2.2
  exact PySem.SeqAt.eq_plain r1 r2 hc.1 hc.2.1 (by omega) ⟨.bl _, H, I, rfl, q⟩
theorem op_neD' (rm : Rm X) : OpR X (compareOp .NotEq) (rD X.K CEq fun d e => !PyData.eqv d e) := by
  intro pins s σ H x y v u Q I rx ry h
  obtain ⟨d, e, hd, he, hc, q⟩ := h
  obtain ⟨as, r1⟩ := hd.reads I _ rx
  obtain ⟨bs, r2⟩ := he.reads I _ ry
  have hu := rm.un
  have := hc.2.2
  exact PySem.SeqAt.ne_plain r1 r2 hc.1 hc.2.1 (by omega) ⟨.bl _, H, I, rfl, q⟩
def dEq (d e : D) : Option Rv := if CEq d e then some (db (PyData.eqv d e)) else none
def dNe (d e : D) : Option Rv := if CEq d e then some (db (!PyData.eqv d e)) else none
theorem eqS {K : PySem.W.Frag} : OpS K (rD K CEq PyData.eqv) dEq := dS
theorem neS {K : PySem.W.Frag} : OpS K (rD K CEq fun d e => !PyData.eqv d e) dNe := dS
def CLt (d e : D) : Prop := PySem.W.alike d e = true ∧ d ≠ .none ∧ min d.depth e.depth ≤ 100
def isNonD : D → Bool
  | .none => true
  | _ => false
theorem isNonD_iff (d : D) : isNonD d = false ↔ d ≠ .none := by cases d <;> simp [isNonD]
instance (d e : D) : Decidable (CLt d e) := decidable_of_iff (PySem.W.alike d e = true ∧ isNonD d = false ∧ min d.depth e.depth ≤ 100) (by unfold CLt; rw [isNonD_iff])
theorem cmp_any {op : CmpOp} {C : D → D → Prop} {g : D → D → Bool}
    (rule : ∀ (s : Shared) (a b : Value) (d e : D) (as bs : List Addr) (Q : Value → Shared → Prop), Reads s.heap a d as → Reads s.heap b e bs → C d e → Q (.bool (g d e)) s → wpAny (model X.prog X.w) X.A (compareOp op a b) Q X.xe s) : OpR X (compareOp op) (rD X.K C g) := by
  intro pins s σ H x y v u Q I rx ry h
  obtain ⟨d, e, hd, he, hc, q⟩ := h
  obtain ⟨as, r1⟩ := hd.reads I _ rx
  obtain ⟨bs, r2⟩ := he.reads I _ ry
  exact rule s v u d e as bs _ r1 r2 hc ⟨.bl _, H, I, rfl, q⟩
theorem op_ltD (rm : Rm X) : OpR X (compareOp .Lt) (rD X.K CLt fun d e => PySem.W.dataLt d e) := cmp_any fun s a b d e as bs Q r1 r2 hc q => by
  have hu := rm.un
  have := hc.2.2
  exact PySem.W.lt_data r1 r2 hc.1 hc.2.1 (by omega) q
theorem op_gtD (rm : Rm X) : OpR X (compareOp .Gt) (rD X.K CLt fun d e => PySem.W.dataLt e d) := cmp_any fun s a b d e as bs Q r1 r2 hc q => by
  have hu := rm.un
  have := hc.2.2
  exact PySem.W.gt_data r1 r2 hc.1 hc.2.1 (by omega) q
theorem op_leD (rm : Rm X) : OpR X (compareOp .LtE) (rD X.K CLt fun d e => !PySem.W.dataLt e d) := cmp_any fun s a b d e as bs Q r1 r2 hc q => by
  have hu := rm.un
  have := hc.2.2
  exact PySem.W.le_data r1 r2 hc.1 hc.2.1 (by omega) q
theorem op_geD (rm : Rm X) : OpR X (compareOp .GtE) (rD X.K CLt fun d e => !PySem.W.dataLt d e) := cmp_any fun s a b d e as bs Q r1 r2 hc q => by
  have hu := rm.un
  have := hc.2.2
  exact PySem.W.ge_data r1 r2 hc.1 hc.2.1 (by omega) q
/-- ints by themselves, else alike data -/
def dCmp (f : Int → Int → Bool) (g : D → D → Bool) : D → D → Option Rv
  | .int i, .int j => some (db (f i j))
  | d, e => if CLt d e then some (db (g d e)) else none
theorem cmpS {K : PySem.W.Frag} {f : Int → Int → Bool} {g : D → D → Bool} : OpS K (fun x y H Q => rI0 (fun i j => .bl (f i j)) x y H Q ∨ rD K CLt g x y H Q) (dCmp f g) := by
  intro O cs H x y d e z Q w sx sy h p
  by_cases hi : ∃ i j, d = .int i ∧ e = .int j
  · obtain ⟨i, j, rfl, rfl⟩ := hi
    cases h
    exact .inl ⟨i, j, sx.int, sy.int, post_bool w p⟩
  · have h' : (if CLt d e then some (db (g d e)) else none) = some z := by
      unfold dCmp at h
      split at h
      · exact absurd ⟨_, _, rfl, rfl⟩ hi
      · exact h
    obtain ⟨hc, rfl⟩ := ite_some h'
    exact .inr ⟨d, e, sx.rp, sy.rp, hc, post_bool w p⟩
def dLt := dCmp (fun i j => decide (i < j)) fun d e => PySem.W.dataLt d e
def dGt := dCmp (fun i j => decide (j < i)) fun d e => PySem.W.dataLt e d
def dLe := dCmp (fun i j => decide (i ≤ j)) fun d e => !PySem.W.dataLt e d
def dGe := dCmp (fun i j => decide (j ≤ i)) fun d e => !PySem.W.dataLt d e
theorem xe_lt {a b : Expr} {fa fb : ME} {pos : Pos} (rm : Rm X) (ha : XE X fa a) (hb : XE X fb b) : XE X (mB dLt fa fb) (.Compare a [.Lt] [b] pos) := xe_cmp (OpR.or op_lt (op_ltD rm)) cmpS ha hb
theorem xe_gt {a b : Expr} {fa fb : ME} {pos : Pos} (rm : Rm X) (ha : XE X fa a) (hb : XE X fb b) : XE X (mB dGt fa fb) (.Compare a [.Gt] [b] pos) := xe_cmp (OpR.or op_gt (op_gtD rm)) cmpS ha hb
theorem xe_le {a b : Expr} {fa fb : ME} {pos : Pos} (rm : Rm X) (ha : XE X fa a) (hb : XE X fb b) : XE X (mB dLe fa fb) (.Compare a [.LtE] [b] pos) := xe_cmp (OpR.or op_le (op_leD rm)) cmpS ha hb
theorem xe_ge {a b : Expr} {fa fb : ME} {pos : Pos} (rm : Rm X) (ha : XE X fa a) (hb : XE X fb b) : XE X (mB dGe fa fb) (.Compare a [.GtE] [b] pos) := xe_cmp (OpR.or op_ge (op_geD rm)) cmpS ha hb
theorem xe_eq {a b : Expr} {fa fb : ME} {pos : Pos} (rm : Rm X) (ha : XE X fa a) (hb : XE X fb b) : XE X (mB dEq fa fb) (.Compare a [.Eq] [b] pos) := xe_cmp (op_eqD' rm) eqS ha hb
theorem xe_ne {a b : Expr} {fa fb : ME} {pos : Pos} (rm : Rm X) (ha : XE X fa a) (hb : XE X fb b) : XE X (mB dNe fa fb) (.Compare a [.NotEq] [b] pos) := xe_cmp (op_neD' rm) neS ha hb
theorem xe_add {a b : Expr} {fa fb : ME} {pos : Pos} (ha : XE X fa a) (hb : XE X fb b) : XE X (mB dAdd fa fb) (.BinOp a .Add b pos) := xe_bin op_addD addS ha hb
theorem xe_sub {a b : Expr} {fa fb : ME} {pos : Pos} (ha : XE X fa a) (hb : XE X fb b) : XE X (mB dSub fa fb) (.BinOp a .Sub b pos) := xe_bin op_sub subS ha hb
theorem xe_mod {a b : Expr} {fa fb : ME} {pos : Pos} (ha : XE X fa a) (hb : XE X fb b) : XE X (mB dMod fa fb) (.BinOp a .Mod b pos) := xe_bin op_modN modS ha hb
theorem xe_div {a b : Expr} {fa fb : ME} {pos : Pos} (ha : XE X fa a) (hb : XE X fb b) : XE X (mB dDiv fa fb) (.BinOp a .FloorDiv b pos) := xe_bin op_fdv divS ha hb
theorem xe_pow {a b : Expr} {fa fb : ME} {pos : Pos} (ha : XE X fa a) (hb : XE X fb b) : XE X (mB dPow fa fb) (.BinOp a .Pow b pos) := xe_bin op_pw powS ha hb
/-! in, not in -/
def CIn (d e : D) : Prop := match e with
  | .list xs => PyData.plainAll xs = true ∧ d.plain = true ∧ min (PyData.depthAll xs) d.depth ≤ 100
  | .tuple xs => PyData.plainAll xs = true ∧ d.plain = true ∧ min (PyData.depthAll xs) d.depth ≤ 100
  | .str _ => match d with
    | .str _ => True
    | _ => False
  | _ => False
instance (d e : D) : Decidable (CIn d e) := by
  unfold CIn
  split
  · exact inferInstanceAs (Decidable (_ ∧ _))
  · exact inferInstanceAs (Decidable (_ ∧ _))
  · split
    · exact isTrue trivial
    · exact isFalse not_false
  · exact isFalse not_false
def inD (d e : D) : Bool := match e with
  | .list xs => xs.any fun y => PyData.eqv y d
  | .tuple xs => xs.any fun y => PyData.eqv y d
  | .str y => match d with
    | .str x => !(Builtin.Str.occurrences y x 0 y.length 1).isEmpty
    | _ => false
  | _ => false
theorem op_inD (rm : Rm X) : OpR X (compareOp .In) (rD X.K CIn inD) := by
  intro pins s σ H x y v u Q I rx ry h
  obtain ⟨d, e, hd, he, hc, q⟩ := h
  have hu := rm.un
  cases e with
  | list xs =>
    obtain ⟨as, r1⟩ := hd.reads I _ rx
    obtain ⟨bs, r2⟩ := he.reads I _ ry
    have h3 := hc.2.2
    exact PySem.SeqAt.in_list_data r2 r1 hc.1 hc.2.1 (by omega) ⟨.bl _, H, I, rfl, q⟩
  | tuple xs =>
    obtain ⟨as, r1⟩ := hd.reads I _ rx
    obtain ⟨bs, r2⟩ := he.reads I _ ry
    have h3 := hc.2.2
    exact PySem.SeqAt.in_tuple_data r2 r1 hc.1 hc.2.1 (by omega) ⟨.bl _, H, I, rfl, q⟩
  | str b =>
    cases d with
    | str a =>
      cases hd
      cases he
      exact op_in_str pins s σ H _ _ v u Q I rx ry ⟨a, b, rfl, rfl, q⟩
    | _ => exact hc.elim
  | _ => exact hc.elim
theorem op_ninD (rm : Rm X) : OpR X (compareOp .NotIn) (rD X.K CIn fun d e => !inD d e) := by
  intro pins s σ H x y v u Q I rx ry h
  obtain ⟨d, e, hd, he, hc, q⟩ := h
  have hu := rm.un
  cases e with
  | list xs =>
    obtain ⟨as, r1⟩ := hd.reads I _ rx
    obtain ⟨bs, r2⟩ := he.reads I _ ry
    have h3 := hc.2.2
    exact PySem.SeqAt.notIn_list_data r2 r1 hc.1 hc.2.1 (by omega) ⟨.bl _, H, I, rfl, q⟩
  | tuple xs =>
    obtain ⟨as, r1⟩ := hd.reads I _ rx
    obtain ⟨bs, r2⟩ := he.reads I _ ry
    have h3 := hc.2.2
    exact PySem.SeqAt.notIn_tuple_data r2 r1 hc.1 hc.2.1 (by omega) ⟨.bl _, H, I, rfl, q⟩
  | str b =>
    cases d with
    | str a =>
      cases hd
      cases he
      exact L2.op_notIn_str pins s σ H _ _ v u Q I rx ry ⟨a, b, rfl, rfl, q⟩
    | _ => exact hc.elim
  | _ => exact hc.elim
def dIn (d e : D) : Option Rv := if CIn d e then some (db (inD d e)) else none
def dNotIn (d e : D) : Option Rv := if CIn d e then some (db (!inD d e)) else none
theorem xe_in {a b : Expr} {fa fb : ME} {pos : Pos} (rm : Rm X) (ha : XE X fa a) (hb : XE X fb b) (hm : behindInMarks .In b = false := by rfl) : XE X (mB dIn fa fb) (.Compare a [.In] [b] pos) := xe_cmp (op_inD rm) dS ha hb hm
theorem xe_notin {a b : Expr} {fa fb : ME} {pos : Pos} (rm : Rm X) (ha : XE X fa a) (hb : XE X fb b) (hm : behindInMarks .NotIn b = false := by rfl) : XE X (mB dNotIn fa fb) (.Compare a [.NotIn] [b] pos) := xe_cmp (op_ninD rm) dS ha hb hm
/-! is: with None, True, False -/
def isD (d e : D) : Option Bool := match e with
  | .none => some (match d with
    | .none => true
    | _ => false)
  | .bool b => some (match d with
    | .bool a => a == b
    | _ => false)
  | _ => none
theorem is_bool_gen {M : Model} {A : Around} {E : Value → Shared → Prop} {s : Shared} {Q : Value → Shared → Prop} {v : Value} {b : Bool} (hv : ∀ i, v ≠ .builtin i) (h : Q (.bool (v == .bool b)) s) : wpAny M A (compareOp .Is v (.bool b)) Q E s := by
  cases v <;> first | exact wpAny_pure h | exact absurd rfl (hv _)
theorem isnot_bool_gen {M : Model} {A : Around} {E : Value → Shared → Prop} {s : Shared} {Q : Value → Shared → Prop} {v : Value} {b : Bool} (hv : ∀ i, v ≠ .builtin i) (h : Q (.bool (!(v == .bool b))) s) : wpAny M A (compareOp .IsNot v (.bool b)) Q E s := by
  cases v <;> first | exact wpAny_pure h | exact absurd rfl (hv _)
theorem no_blt {x : V} {v : Value} (r : RelV x v) : ∀ i, v ≠ .builtin i := fun i e => by
  subst e
  cases x with
  | non => cases (show Value.builtin i = .none from r)
  | bl _ => cases (show Value.builtin i = .bool _ from r)
  | int _ => obtain ⟨t, h⟩ := (show ∃ t, Value.builtin i = .int _ t from r); cases h
  | str _ => obtain ⟨t, h⟩ := (show ∃ t, Value.builtin i = .str _ t from r); cases h
  | byt _ => obtain ⟨t, h⟩ := (show ∃ t, Value.builtin i = .bytes _ t from r); cases h
  | flt _ => obtain ⟨t, h⟩ := (show ∃ t, Value.builtin i = .float _ t from r); cases h
  | ref _ => cases (show Value.builtin i = .ref _ from r)
  | ty _ => cases (show Value.builtin i = .type _ from r)
theorem isV {K : PySem.W.Frag} {H : Hp} {x y : V} {v u : Value} {d e : D} {k : Bool} (hd : Rp K H x d) (he : Rp K H y e) (rx : RelV x v) (ry : RelV y u) (h : isD d e = some k) : (v == u) = k ∧ (u = .none ∨ ∃ b, u = .bool b) := by
  cases he with
  | non =>
    cases (show u = .none from ry)
    cases h
    refine ⟨?_, .inl rfl⟩
    rw [rx.none_iff]
    cases hd <;> rfl
  | bl b =>
    cases (show u = .bool b from ry)
    cases h
    refine ⟨?_, .inr ⟨b, rfl⟩⟩
    cases hd with
    | non => cases (show v = .none from rx); rfl
    | bl a => cases (show v = .bool a from rx); cases a <;> cases b <;> rfl
    | int i => obtain ⟨t, rfl⟩ := (show ∃ t, v = .int i t from rx); rfl
    | str i => obtain ⟨t, rfl⟩ := (show ∃ t, v = .str i t from rx); rfl
    | lst _ _ => cases (show v = .ref _ from rx); rfl
    | tup _ _ => cases (show v = .ref _ from rx); rfl
    | dct _ _ _ => cases (show v = .ref _ from rx); rfl
  | _ => cases h
def rIs (K : PySem.W.Frag) (f : Bool → Bool) : R2 := fun x y H Q => ∃ d e k, Rp K H x d ∧ Rp K H y e ∧ isD d e = some k ∧ Q (.bl (f k)) H
theorem op_isD : OpR X (compareOp .Is) (rIs X.K id) := by
  intro pins s σ H x y v u Q I rx ry h
  obtain ⟨d, e, k, hd, he, hk, q⟩ := h
  obtain ⟨h1, h2⟩ := isV hd he rx ry hk
  rcases h2 with rfl | ⟨b, rfl⟩
  · exact is_none_gen ⟨.bl _, H, I, by rw [h1]; rfl, q⟩
  · exact is_bool_gen (no_blt rx) ⟨.bl _, H, I, by rw [h1]; rfl, q⟩
theorem op_isnD : OpR X (compareOp .IsNot) (rIs X.K not) := by
  intro pins s σ H x y v u Q I rx ry h
  obtain ⟨d, e, k, hd, he, hk, q⟩ := h
  obtain ⟨h1, h2⟩ := isV hd he rx ry hk
  rcases h2 with rfl | ⟨b, rfl⟩
  · exact isnot_none_gen ⟨.bl _, H, I, by rw [h1]; rfl, q⟩
  · exact isnot_bool_gen (no_blt rx) ⟨.bl _, H, I, by rw [h1]; rfl, q⟩
def dIs (f : Bool → Bool) (d e : D) : Option Rv := (isD d e).map fun k => db (f k)
theorem isS {K : PySem.W.Frag} {f : Bool → Bool} : OpS K (rIs K f) (dIs f) := by
  intro O cs H x y d e z Q w sx sy h p
  obtain ⟨k, hk, rfl⟩ := Option.map_eq_some_iff.mp h
  exact ⟨d, e, k, sx.rp, sy.rp, hk, post_bool w p⟩
theorem xe_is {a b : Expr} {fa fb : ME} {pos : Pos} (ha : XE X fa a) (hb : XE X fb b) : XE X (mB (dIs id) fa fb) (.Compare a [.Is] [b] pos) := xe_cmp op_isD isS ha hb
theorem xe_isnot {a b : Expr} {fa fb : ME} {pos : Pos} (ha : XE X fa a) (hb : XE X fb b) : XE X (mB (dIs not) fa fb) (.Compare a [.IsNot] [b] pos) := xe_cmp op_isnD isS ha hb
/-! not, and, or -/
def dNeg : D → Option Rv
  | .int i => some (di (-i))
  | _ => none
theorem xe_neg {a : Expr} {fa : ME} {pos : Pos} (ha : XE X fa a) : XE X (mU dNeg fa) (.UnaryOp .USub a pos) := xe_un un_neg (fun O cs H x d z Q w sx h p => by
  cases d with
  | int i => cases h; exact ⟨i, sx.int, post_int w p⟩
  | _ => cases h) ha
def dNot (d : D) : Option Rv := (truD d).map fun k => db (!k)
theorem xe_not {a : Expr} {fa : ME} {pos : Pos} (ha : XE X fa a) : XE X (mU dNot fa) (.UnaryOp .Not a pos) :=
  pe_weak (pe_notT ha) fun σ H Q ⟨ρ, O, cs, z, cs', e, en, w, p⟩ => by
    obtain ⟨x, d, h1, h2, h3⟩ := mU_some e
    obtain ⟨k, hk, rfl⟩ := Option.map_eq_some_iff.mp h3
    exact ⟨ρ, O, cs, x, cs', h1, en, w, fun v1 H1 c1 w1 r1 => ⟨k, truD_v (r1.deg.sh w1 h2) hk, post_bool w1 (p.step c1 w1)⟩⟩
def mAnd (fa fb : ME) : ME := fun ρ cs => (fa ρ cs).bind fun p => (rd (deg p.1) p.2).bind fun d => (truD d).bind fun k => if k = true then fb ρ p.2 else some (deg p.1, p.2)
def mOr (fa fb : ME) : ME := fun ρ cs => (fa ρ cs).bind fun p => (rd (deg p.1) p.2).bind fun d => (truD d).bind fun k => if k = true then some (deg p.1, p.2) else fb ρ p.2
theorem ArR.rv {K : PySem.W.Frag} {O : List (Option Addr)} {H H0 : Hp} {cs : Cs} {r : Rv} {v : V} (h : ArR K O r v H) : RvR K O H0 cs r v H := by
  cases r with
  | dat d => exact h
  | own k => exact h
  | fr c => exact h.elim
theorem xe_and {a b : Expr} {rest : List Expr} {fa fb : ME} {pos : Pos} (ha : XE X fa a) (hb : XE X fb (.BoolOp .And (b :: rest) pos)) : XE X (mAnd fa fb) (.BoolOp .And (a :: b :: rest) pos) :=
  pe_weak (pe_andT ha hb) fun σ H Q ⟨ρ, O, cs, z, cs', e, en, w, p⟩ => by
    unfold mAnd at e
    obtain ⟨⟨x, cs1⟩, h1, e⟩ := Option.bind_eq_some_iff.mp e
    obtain ⟨d, h2, e⟩ := Option.bind_eq_some_iff.mp e
    obtain ⟨k, h3, e⟩ := Option.bind_eq_some_iff.mp e
    refine ⟨ρ, O, cs, x, cs1, h1, en, w, fun v1 H1 c1 w1 r1 => ⟨k, truD_v (r1.deg.sh w1 h2) h3, ?_⟩⟩
    cases k with
    | true => exact ⟨ρ, O, cs1, z, cs', e, en.ch c1, w1, p.step c1 w1⟩
    | false =>
      cases e
      exact p v1 H1 c1 w1 (r1.deg.rv)
theorem xe_or {a b : Expr} {rest : List Expr} {fa fb : ME} {pos : Pos} (ha : XE X fa a) (hb : XE X fb (.BoolOp .Or (b :: rest) pos)) : XE X (mOr fa fb) (.BoolOp .Or (a :: b :: rest) pos) :=
  pe_weak (pe_orT ha hb) fun σ H Q ⟨ρ, O, cs, z, cs', e, en, w, p⟩ => by
    unfold mOr at e
    obtain ⟨⟨x, cs1⟩, h1, e⟩ := Option.bind_eq_some_iff.mp e
    obtain ⟨d, h2, e⟩ := Option.bind_eq_some_iff.mp e
    obtain ⟨k, h3, e⟩ := Option.bind_eq_some_iff.mp e
    refine ⟨ρ, O, cs, x, cs1, h1, en, w, fun v1 H1 c1 w1 r1 => ⟨k, truD_v (r1.deg.sh w1 h2) h3, ?_⟩⟩
    cases k with
    | false => exact ⟨ρ, O, cs1, z, cs', e, en.ch c1, w1, p.step c1 w1⟩
    | true =>
      cases e
      exact p v1 H1 c1 w1 (r1.deg.rv)
theorem xe_or1 {a : Expr} {fa : ME} {pos : Pos} (ha : XE X fa a) : XE X fa (.BoolOp .Or [a] pos) := pe_one ha
theorem xe_and1 {a : Expr} {fa : ME} {pos : Pos} (ha : XE X fa a) : XE X fa (.BoolOp .And [a] pos) := pe_one ha
end
end DL
namespace DL
open PySem PySem.Spec PyProof.Rows L2
section
variable {X : Cx}
/-! tests -/
def mTB (f : ME) : MT := fun ρ cs => (f ρ cs).bind fun p => match p.1 with
  | .dat (.bool b) => some (b, p.2)
  | _ => none
theorem mTB_some {f : ME} {ρ : Rho} {cs cs' : Cs} {b : Bool} (h : mTB f ρ cs = some (b, cs')) : f ρ cs = some (db b, cs') := by
  unfold mTB at h
  obtain ⟨⟨x, cs1⟩, h1, h⟩ := Option.bind_eq_some_iff.mp h
  cases x with
  | dat d =>
    cases d with
    | bool c => cases h; exact h1
    | _ => cases h
  | _ => cases h
theorem tTest_of {K : PySem.W.Frag} {f : ME} {t : TE} (h : ∀ σ H Q, tX K f σ H Q → t σ H Q) : ∀ σ H Q, tXT K (mTB f) σ H Q → tTest t σ H Q := fun σ H Q ⟨ρ, O, cs, b, cs', e, en, w, p⟩ =>
  h σ H _ ⟨ρ, O, cs, db b, cs', mTB_some e, en, w, fun v H' c' w' rv => by
    cases (show Rp K (hd O H') v (.bool b) from rv)
    exact ⟨b, rfl, p H' c' w'⟩⟩
theorem xt_cmp {op : CmpOp} {r : R2} {g : D → D → Option Rv} {a b : Expr} {fa fb : ME} {pos : Pos} (ho : OpR X (compareOp op) r) (hs : OpS X.K r g) (ha : XE X fa a) (hb : XE X fb b) (hm : behindInMarks op b = false := by first | exact nobehind _ (by decide) (by decide) | rfl) :
    XT X (mTB (mB g fa fb)) (.Compare a [op] [b] pos) := pt_weak (pt_cmpR ho ha hb hm) (tTest_of fun σ H Q h => tOp_of hs h)
theorem xt_lt {a b : Expr} {fa fb : ME} {pos : Pos} (rm : Rm X) (ha : XE X fa a) (hb : XE X fb b) : XT X (mTB (mB dLt fa fb)) (.Compare a [.Lt] [b] pos) := xt_cmp (OpR.or op_lt (op_ltD rm)) cmpS ha hb
theorem xt_gt {a b : Expr} {fa fb : ME} {pos : Pos} (rm : Rm X) (ha : XE X fa a) (hb : XE X fb b) : XT X (mTB (mB dGt fa fb)) (.Compare a [.Gt] [b] pos) := xt_cmp (OpR.or op_gt (op_gtD rm)) cmpS ha hb
theorem xt_le {a b : Expr} {fa fb : ME} {pos : Pos} (rm : Rm X) (ha : XE X fa a) (hb : XE X fb b) : XT X (mTB (mB dLe fa fb)) (.Compare a [.LtE] [b] pos) := xt_cmp (OpR.or op_le (op_leD rm)) cmpS ha hb
theorem xt_ge {a b : Expr} {fa fb : ME} {pos : Pos} (rm : Rm X) (ha : XE X fa a) (hb : XE X fb b) : XT X (mTB (mB dGe fa fb)) (.Compare a [.GtE] [b] pos) := xt_cmp (OpR.or op_ge (op_geD rm)) cmpS ha hb
theorem xt_eq {a b : Expr} {fa fb : ME} {pos : Pos} (rm : Rm X) (ha : XE X fa a) (hb : XE X fb b) : XT X (mTB (mB dEq fa fb)) (.Compare a [.Eq] [b] pos) := xt_cmp (op_eqD' rm) eqS ha hb
theorem xt_ne {a b : Expr} {fa fb : ME} {pos : Pos} (rm : Rm X) (ha : XE X fa a) (hb : XE X fb b) : XT X (mTB (mB dNe fa fb)) (.Compare a [.NotEq] [b] pos) := xt_cmp (op_neD' rm) neS ha hb
theorem xt_in {a b : Expr} {fa fb : ME} {pos : Pos} (rm : Rm X) (ha : XE X fa a) (hb : XE X fb b) (hm : behindInMarks .In b = false := by rfl) : XT X (mTB (mB dIn fa fb)) (.Compare a [.In] [b] pos) := xt_cmp (op_inD rm) dS ha hb hm
theorem xt_notin {a b : Expr} {fa fb : ME} {pos : Pos} (rm : Rm X) (ha : XE X fa a) (hb : XE X fb b) (hm : behindInMarks .NotIn b = false := by rfl) : XT X (mTB (mB dNotIn fa fb)) (.Compare a [.NotIn] [b] pos) := xt_cmp (op_ninD rm) dS ha hb hm
theorem xt_is {a b : Expr} {fa fb : ME} {pos : Pos} (ha : XE X fa a) (hb : XE X fb b) : XT X (mTB (mB (dIs id) fa fb)) (.Compare a [.Is] [b] pos) := xt_cmp op_isD isS ha hb
theorem xt_isnot {a b : Expr} {fa fb : ME} {pos : Pos} (ha : XE X fa a) (hb : XE X fb b) : XT X (mTB (mB (dIs not) fa fb)) (.Compare a [.IsNot] [b] pos) := xt_cmp op_isnD isS ha hb
def mTNot (f : MT) : MT := fun ρ cs => (f ρ cs).map fun p => (!p.1, p.2)
theorem xt_not {a : Expr} {f : MT} {pos : Pos} (ha : XT X f a) : XT X (mTNot f) (.UnaryOp .Not a pos) :=
  pt_weak (pt_not ha) fun σ H Q ⟨ρ, O, cs, b, cs', e, en, w, p⟩ => by
    obtain ⟨⟨c, cs1⟩, h1, h⟩ := Option.map_eq_some_iff.mp e
    cases h
    exact ⟨ρ, O, cs, c, cs1, h1, en, w, p⟩
def XW (X : Cx) (f : MT) (e : Expr) : Prop := PW X e (tXT X.K f)
theorem pw_weak {e : Expr} {t t' : TT} (h : PW X e t) (w : ∀ σ H Q, t' σ H Q → t σ H Q) : PW X e t' := ⟨fun wh pins s σ H Q I q => h.run wh pins s σ H Q I (w _ _ _ q)⟩
def mTAnd (f g : MT) : MT := fun ρ cs => (f ρ cs).bind fun p => if p.1 = true then g ρ p.2 else some (false, p.2)
def mTOr (f g : MT) : MT := fun ρ cs => (f ρ cs).bind fun p => if p.1 = true then some (true, p.2) else g ρ p.2
theorem xw_and1 {a : Expr} {f : MT} {pos : Pos} (ha : XT X f a) : XW X f (.BoolOp .And [a] pos) := pw_and1 ha
theorem xw_or1 {a : Expr} {f : MT} {pos : Pos} (ha : XT X f a) : XW X f (.BoolOp .Or [a] pos) := pw_or1 ha
theorem xw_and {a b : Expr} {rest : List Expr} {f g : MT} {pos : Pos} (ha : XT X f a) (hb : XW X g (.BoolOp .And (b :: rest) pos)) : XW X (mTAnd f g) (.BoolOp .And (a :: b :: rest) pos) :=
  pw_weak (pw_and ha hb) fun σ H Q ⟨ρ, O, cs, b, cs', e, en, w, p⟩ => by
    obtain ⟨⟨c, cs1⟩, h1, h⟩ := Option.bind_eq_some_iff.mp e
    refine ⟨ρ, O, cs, c, cs1, h1, en, w, fun H1 c1 w1 => ?_⟩
    cases c with
    | true => exact ⟨ρ, O, cs1, b, cs', h, en.ch c1, w1, p.step c1⟩
    | false => cases h; exact p H1 c1 w1
theorem xw_or {a b : Expr} {rest : List Expr} {f g : MT} {pos : Pos} (ha : XT X f a) (hb : XW X g (.BoolOp .Or (b :: rest) pos)) : XW X (mTOr f g) (.BoolOp .Or (a :: b :: rest) pos) :=
  pw_weak (pw_or ha hb) fun σ H Q ⟨ρ, O, cs, b, cs', e, en, w, p⟩ => by
    obtain ⟨⟨c, cs1⟩, h1, h⟩ := Option.bind_eq_some_iff.mp e
    refine ⟨ρ, O, cs, c, cs1, h1, en, w, fun H1 c1 w1 => ?_⟩
    cases c with
    | false => exact ⟨ρ, O, cs1, b, cs', h, en.ch c1, w1, p.step c1⟩
    | true => cases h; exact p H1 c1 w1
theorem xt_w {a : Expr} {f : MT} (h : XW X f a) : XT X f a := PW.pt h
def mIf (c : MT) (fa fb : ME) : ME := fun ρ cs => (c ρ cs).bind fun p => if p.1 = true then fa ρ p.2 else fb ρ p.2
theorem xe_if {c a b : Expr} {f : MT} {fa fb : ME} {pos : Pos} (hc : XT X f c) (ha : XE X fa a) (hb : XE X fb b) : XE X (mIf f fa fb) (.IfExp c a b pos) :=
  pe_weak (pe_ifExp hc ha hb) fun σ H Q ⟨ρ, O, cs, z, cs', e, en, w, p⟩ => by
    obtain ⟨⟨k, cs1⟩, h1, h⟩ := Option.bind_eq_some_iff.mp e
    refine ⟨ρ, O, cs, k, cs1, h1, en, w, fun H1 c1 w1 => ?_⟩
    cases k with
    | true => exact ⟨ρ, O, cs1, z, cs', h, en.ch c1, w1, p.step c1 w1⟩
    | false => exact ⟨ρ, O, cs1, z, cs', h, en.ch c1, w1, p.step c1 w1⟩
/-! a chain of two comparisons: of ints alone -/
def intOf : Rv → Option Int
  | .dat (.int i) => some i
  | _ => none
theorem intOf_some {r : Rv} {i : Int} (h : intOf r = some i) : r = di i := by
  cases r with
  | dat d =>
    cases d with
    | int j => cases h; rfl
    | _ => cases h
  | _ => cases h
def mChain (g g' : Int → Int → Bool) (fa fb fc : ME) : ME := fun ρ cs => (fa ρ cs).bind fun p => (fb ρ p.2).bind fun q => (intOf p.1).bind fun i => (intOf q.1).bind fun j =>
  if g i j = true then (fc ρ q.2).bind fun r => (intOf r.1).bind fun k => some (db (g' j k), r.2) else some (db false, q.2)
theorem tChain_of {K : PySem.W.Frag} {g g' : Int → Int → Bool} {fa fb fc : ME} {σ : L2.St} {H : Hp} {Q : VK} (h : tX K (mChain g g' fa fb fc) σ H Q) :
    tChain (rI0 fun i j => .bl (g i j)) (rI0 fun i j => .bl (g' i j)) (tX K fa) (tX K fb) (tX K fc) σ H Q := by
  obtain ⟨ρ, O, cs, z, cs', e, en, w, p⟩ := h
  unfold mChain at e
  obtain ⟨⟨x, cs1⟩, h1, e1⟩ := Option.bind_eq_some_iff.mp e
  clear e
  obtain ⟨⟨y, cs2⟩, h2, e2⟩ := Option.bind_eq_some_iff.mp e1
  clear e1
  obtain ⟨i, hi, e3⟩ := Option.bind_eq_some_iff.mp e2
  clear e2
  obtain ⟨j, hj, e4⟩ := Option.bind_eq_some_iff.mp e3
  clear e3
  obtain rfl : x = di i := intOf_some hi
  obtain rfl : y = di j := intOf_some hj
  refine ⟨ρ, O, cs, _, cs1, h1, en, w, fun v1 H1 c1 w1 r1 => ?_⟩
  refine ⟨ρ, O, cs1, _, cs2, h2, en.ch c1, w1, fun v2 H2 c2 w2 r2 => ?_⟩
  cases (show Rp K (hd O H1) v1 (.int i) from r1)
  cases (show Rp K (hd O H2) v2 (.int j) from r2)
  refine ⟨i, j, rfl, rfl, g i j, rfl, ?_⟩
  by_cases hg : g i j = true
  · rw [if_pos hg] at e4 ⊢
    obtain ⟨⟨r, cs3⟩, h3, e5⟩ := Option.bind_eq_some_iff.mp e4
    clear e4
    obtain ⟨k, hk, e6⟩ := Option.bind_eq_some_iff.mp e5
    clear e5
    obtain rfl : r = di k := intOf_some hk
    cases e6
    refine ⟨ρ, O, cs2, _, cs3, h3, en.ch (c1.trans c2), w2, fun v3 H3 c3 w3 r3 => ?_⟩
    cases (show Rp K (hd O H3) v3 (.int k) from r3)
    exact ⟨j, k, rfl, rfl, post_bool w3 (p.step ((c1.trans c2).trans c3) w3)⟩
  · rw [if_neg hg] at e4 ⊢
    cases e4
    exact post_bool w2 (p.step (c1.trans c2) w2)
theorem xe_chain {op op' : CmpOp} {g g' : Int → Int → Bool} {a b c : Expr} {fa fb fc : ME} {pos : Pos} (ho : OpR X (compareOp op) (rI0 fun i j => .bl (g i j))) (ho' : OpR X (compareOp op') (rI0 fun i j => .bl (g' i j))) (ha : XE X fa a) (hb : XE X fb b) (hc : XE X fc c)
    (hm : lastMarks [op, op'] [b, c] = false := by with_unfolding_all rfl) : XE X (mChain g g' fa fb fc) (.Compare a [op, op'] [b, c] pos) := pe_weak (pe_chain ho ho' ha hb hc hm) fun σ H Q h => tChain_of h
theorem xt_chain {op op' : CmpOp} {g g' : Int → Int → Bool} {a b c : Expr} {fa fb fc : ME} {pos : Pos} (ho : OpR X (compareOp op) (rI0 fun i j => .bl (g i j))) (ho' : OpR X (compareOp op') (rI0 fun i j => .bl (g' i j))) (ha : XE X fa a) (hb : XE X fb b) (hc : XE X fc c)
    (hm : lastMarks [op, op'] [b, c] = false := by with_unfolding_all rfl) : XT X (mTB (mChain g g' fa fb fc)) (.Compare a [op, op'] [b, c] pos) := pt_weak (pt_chain ho ho' ha hb hc hm) (tTest_of fun σ H Q h => tChain_of h)

/-! * -/
def rMlD : R2 := fun x y H Q => rI CMl (fun i j => .int (i * j)) x y H Q ∨ rMlS x y H Q
theorem mul_len (z : Str) (k : Int) (h : 0 ≤ k) : (Txt.mul z k).length ≤ z.length * k.toNat := by
  unfold Txt.mul
  split
  · exact Nat.zero_le _
  · split
    · rename_i h1 h2
      rcases (by simpa using h2 : k = 1 ∨ z.length = 0) with e | e
      · subst e; simp
      · rw [e]; simp
    · rename_i h1 h2
      generalize k.toNat = m
      have : ∀ (m : Nat) (acc : Array Nat), ((List.replicate m z.cps).foldl (· ++ ·) acc).size = acc.size + z.cps.size * m := by
        intro m
        induction m with
        | zero => intro acc; simp
        | succ m ih => intro acc; rw [List.replicate_succ, List.foldl_cons, ih, Array.size_append, Nat.mul_succ]; omega
      show ((List.replicate m z.cps).foldl (· ++ ·) #[]).size ≤ z.cps.size * m
      rw [this]; simp
/-- list * int -/
theorem op_repR : OpR X (binaryOp .Mult) (fun x y H Q => ∃ l k xs, x = .ref l ∧ y = .int k ∧ H l = some (.lst xs) ∧ -(2 ^ 63) ≤ k ∧ k < 2 ^ 63 ∧ xs.length * k.toNat ≤ sizeLine ∧
  ∀ p, H p = none → Q (.ref p) (upd H p (.lst (List.replicate k.toNat xs).flatten))) := op_rep
end
end DL
namespace DL
open PySem PySem.Spec PyProof.Rows L2
section
variable {X : Cx}
/-! * -/
def rRpL (K : PySem.W.Frag) : R2 := fun x y H Q => ∃ l k xs, x = .ref l ∧ y = .int k ∧ LstAt K H l xs ∧ 0 ≤ k ∧ k < 2 ^ 31 ∧ xs.length * k.toNat ≤ sizeLine ∧ ∀ p, H p = none → Q (.ref p) (upd H p (.lst (List.replicate k.toNat xs).flatten))
theorem rep_fold (its : List Value) (m : Nat) : (List.replicate (if its.toArray.isEmpty = true then 0 else m) its.toArray).foldl (fun a b => a ++ b) #[] = (List.replicate m its).flatten.toArray := by
  have f0 : ∀ k : Nat, (List.replicate k its.toArray).foldl (fun a b => a ++ b) #[] = (List.replicate k its).flatten.toArray := fun k => by
    have := foldl_rep its k []
    simpa using this
  cases its with
  | nil => rw [f0]; simp
  | cons a r =>
    rw [if_neg (by simp)]
    exact f0 m
theorem op_rpL : OpR X (binaryOp .Mult) (rRpL X.K) := by
  intro pins s σ H x y v u Q I rx ry h
  obtain ⟨l, k, xs, rfl, rfl, hr, k0, k1, hz, q⟩ := h
  obtain ⟨hw, its, n, r, e⟩ := lst_rd I hr
  have hv : v = Value.ref l := rx
  subst hv
  obtain ⟨t, ht⟩ := (show ∃ t, u = Value.int k t from ry)
  subst ht
  have hlen := r.length
  have c1 : its.toArray.size * k.toNat ≤ sizeLine := by rw [List.size_toArray, ← hlen]; exact hz
  have c2 : ¬ its.toArray.size * k.toNat > (2 ^ 63 - 1) / 8 := by
    have : (sizeLine : Nat) ≤ (2 ^ 63 - 1) / 8 := by rw [sizeLine_eq]; decide
    omega
  have c3 : ¬ (!Builtin.List.listFitsIndex k) = true := by
    rw [fitsIndex_both (by omega) (by omega)]
    simp
  have c4 : ¬ Builtin.List.listTooLong (its.toArray.size * k.toNat) = true := by
    rw [notLongL c1]
    simp
  have st : s.TypeIs (.ref l) "list" := ⟨_, e, rfl⟩
  refine wpAny_binaryOp_repeat_ref (T := "list") (U := "int") (by decide) st (fun s' => typeIs_int s' k t) noFill_list_mul F.fills_int_mul F.slot_int_rmul repeat_list F.slot_int_index.lookup ?_
  refine call_meets F.slot_int_rmul (typeIs_int s k t) F.entry_int_rmul (F.args_int_rmul_2 _ _) (int___rmul___int_list k t l its.toArray n) ⟨e, rfl, st, ?_⟩
  refine call_meets F.slot_list_mul st F.entry_list_mul (F.args_list_mul_2 _ _) (AutoListH.list___mul___list_int_3 l its.toArray n k t c3 c2 c4) ⟨e, ?_⟩
  rw [rep_fold]
  refine ⟨.ref _, _, I.lnew (t' := s.toks) (r.rep k.toNat) ?_, rfl, q _ I.fresh⟩
  rw [PyProof.Rows.lm_len_rep_flat, Nat.mul_comm]
  exact hz
theorem RpAll.rep {K : PySem.W.Frag} {H : Hp} {vs : List V} {ds : List D} (h : RpAll K H vs ds) : ∀ k : Nat, RpAll K H (List.replicate k vs).flatten (List.replicate k ds).flatten
  | 0 => .nil
  | k + 1 => by
    rw [List.replicate_succ, List.replicate_succ, List.flatten_cons, List.flatten_cons]
    exact h.append (RpAll.rep h k)
def dMul : D → D → Option Rv
  | .int i, .int j => if CMl i j then some (di (i * j)) else none
  | .str z, .int k => if 0 ≤ k ∧ k < 2 ^ 31 ∧ z.length * k.toNat ≤ 16777216 then some (.dat (.str (Txt.mul z k))) else none
  | .list ds, .int k => if 0 ≤ k ∧ k < 2 ^ 31 ∧ ds.length * k.toNat ≤ sizeLine then some (.fr (List.replicate k.toNat ds).flatten) else none
  | _, _ => none
def rMulD (K : PySem.W.Frag) : R2 := fun x y H Q => rI CMl (fun i j => .int (i * j)) x y H Q ∨ rMlS x y H Q ∨ rRpL K x y H Q
theorem op_mulD : OpR X (binaryOp .Mult) (rMulD X.K) := OpR.or op_ml (OpR.or op_mlS op_rpL)
theorem mulS {K : PySem.W.Frag} : OpS K (rMulD K) dMul := by
  intro O cs H x y d e z Q w sx sy g p
  cases d with
  | int i =>
    cases e with
    | int j =>
      obtain ⟨hz, rfl⟩ := ite_some g
      exact .inl ⟨i, j, sx.int, sy.int, hz, post_int w p⟩
    | _ => cases g
  | str i =>
    cases e with
    | int k =>
      obtain ⟨rfl, h1⟩ := sx.str
      obtain ⟨hz, rfl⟩ := ite_some g
      refine .inr (.inl ⟨i, k, rfl, sy.int, hz.1, hz.2.1, hz.2.2, post_str w ?_ p⟩)
      exact Nat.le_trans (mul_len i k hz.1) (by rw [sizeLine_eq]; exact hz.2.2)
    | _ => cases g
  | list ds =>
    cases e with
    | int k =>
      obtain ⟨a, vs, rfl, q1, r1⟩ := sx.list
      obtain ⟨hz, rfl⟩ := ite_some g
      exact .inr (.inr ⟨a, k, vs, rfl, sy.int, q1, hz.1, hz.2.1, by rw [r1.length]; exact hz.2.2, post_list w (r1.rep _) p⟩)
    | _ => cases g
  | _ => cases g
theorem xe_mul {a b : Expr} {fa fb : ME} {pos : Pos} (ha : XE X fa a) (hb : XE X fb b) : XE X (mB dMul fa fb) (.BinOp a .Mult b pos) := xe_bin op_mulD mulS ha hb

/-! len -/
def dLen : List D → Option Rv
  | [.list ds] => some (di ds.length)
  | [.tuple ds] => some (di ds.length)
  | [.str x] => some (di x.length)
  | _ => none
theorem Paired.one {α β : Type} {R : α → β → Prop} {xs : List α} {y : β} (h : Paired R xs [y]) : ∃ x, xs = [x] ∧ R x y := by
  cases h with
  | cons a t => cases t; exact ⟨_, rfl, a⟩
theorem Paired.two {α β : Type} {R : α → β → Prop} {xs : List α} {y z : β} (h : Paired R xs [y, z]) : ∃ x x', xs = [x, x'] ∧ R x y ∧ R x' z := by
  cases h with
  | cons a t =>
    cases t with
    | cons b t => cases t; exact ⟨_, _, rfl, a, b⟩
theorem lenS {K : PySem.W.Frag} : CaS K (fun xs H Q => ∃ x n, xs = [x] ∧ LenV K x H n ∧ Q (.int n) H) dLen := by
  intro O cs H vs ds z Q w hp g p
  cases ds with
  | nil => cases g
  | cons d r =>
    cases r with
    | cons _ _ => cases d <;> cases g
    | nil =>
      obtain ⟨x, rfl, sx⟩ := Paired.one hp
      cases d with
      | list ds =>
        cases g
        obtain ⟨a, vs, rfl, q1, r1⟩ := sx.list
        exact ⟨_, _, rfl, .inl ⟨vs, q1.sq, rfl⟩, by rw [r1.length]; exact post_int w p⟩
      | tuple ds =>
        cases g
        obtain ⟨a, vs, rfl, q1, r1⟩ := sx.tuple
        exact ⟨_, _, rfl, .inr ⟨vs, .inl q1, rfl⟩, by rw [r1.length]; exact post_int w p⟩
      | str y =>
        cases g
        obtain ⟨rfl, hz⟩ := sx.str
        exact ⟨_, _, rfl, ⟨hz, rfl⟩, post_int w p⟩
      | _ => cases g
theorem xe_len {e : Expr} {fa : MA} {p pos : Pos} (hg : Gl X "len") (hm : X.mg "len" = none) (ha : XA X fa [e]) (he : starEach [e] X.env = (false, eval e X.env) :: starEach [] X.env := by rfl) : XE X (mCall dLen fa) (.Call (.Name "len" p) [e] [] pos) :=
  xe_callB call_len lenS hg hm boot_len ha (he := he)

/-! items -/
def dIx (d e : D) : Option Rv := match e with
  | .int i => match d with
    | .list ds => (atI ds i).map .dat
    | .tuple ds => (atI ds i).map .dat
    | .str x => (atI x.cps.toList i).map fun c => .dat (.str ⟨#[c]⟩)
    | _ => none
  | _ => none
theorem atI_rp {K : PySem.W.Frag} {H : Hp} {vs : List V} {ds : List D} (r : RpAll K H vs ds) {i : Int} {d : D} (h : atI ds i = some d) : ∃ v, atI vs i = some v ∧ Rp K H v d := by
  unfold atI at h ⊢
  obtain ⟨j, h1, h2⟩ := Option.bind_eq_some_iff.mp h
  obtain ⟨v, h3, h4⟩ := r.get h2
  exact ⟨v, by rw [r.length, h1]; exact h3, h4⟩
theorem one_sign (c : Nat) : (⟨#[c]⟩ : Str).length ≤ sizeLine := by
  show 1 ≤ sizeLine
  rw [sizeLine_eq]; decide
theorem ixS {K : PySem.W.Frag} : OpS K (rIx K) dIx := by
  intro O cs H x y d e z Q w sx sy g p
  cases e with
  | int i =>
    cases d with
    | list ds =>
      obtain ⟨d, hd, rfl⟩ := Option.map_eq_some_iff.mp g
      obtain ⟨a, vs, rfl, q1, r1⟩ := sx.list
      obtain ⟨v, h1, h2⟩ := atI_rp r1 hd
      exact .inl ⟨a, vs, i, v, rfl, sy.int, q1.sq, h1, post_val w h2 p⟩
    | tuple ds =>
      obtain ⟨d, hd, rfl⟩ := Option.map_eq_some_iff.mp g
      obtain ⟨a, vs, rfl, q1, r1⟩ := sx.tuple
      obtain ⟨v, h1, h2⟩ := atI_rp r1 hd
      exact .inr (.inl ⟨a, vs, i, v, rfl, sy.int, .inl q1, h1, post_val w h2 p⟩)
    | str t =>
      obtain ⟨c, hc, rfl⟩ := Option.map_eq_some_iff.mp g
      obtain ⟨rfl, hz⟩ := sx.str
      exact .inr (.inr ⟨t, i, c, rfl, sy.int, hz, hc, post_str w (one_sign c) p⟩)
    | _ => cases g
  | _ => cases d <;> cases g
theorem xe_item {a b : Expr} {fa fb : ME} {pos : Pos} (ha : XE X fa a) (hb : XE X fb b) (hp : PlainIx b := by exact fun _ _ => rfl) : XE X (mB dIx fa fb) (.Subscript a b pos) := xe_ix ix_seq ixS ha hb hp

/-! slices -/
abbrev MO := Rho → Cs → Option (Option Int × Cs)
def tXO (K : PySem.W.Frag) (f : MO) : TO := fun σ H Q => ∃ ρ O cs o cs', f ρ cs = some (o, cs') ∧ EnvOk K O H ρ σ ∧ Wd K O cs H ∧ Pst K O H cs' (Q o)
def XO (X : Cx) (f : MO) (e : Option Expr) : Prop := PO X e (tXO X.K f)
def oNone : MO := fun _ cs => some (none, cs)
def oSome (f : ME) : MO := fun ρ cs => (f ρ cs).bind fun p => (intOf p.1).map fun i => (some i, p.2)
theorem po_weak {e : Option Expr} {t t' : TO} (h : PO X e t) (w : ∀ σ H Q, t' σ H Q → t σ H Q) : PO X e t' := ⟨fun pins s σ H Q I q => h.run pins s σ H Q I (w _ _ _ q)⟩
theorem xo_none : XO X oNone none := po_weak po_none fun σ H Q ⟨ρ, O, cs, o, cs', e, en, w, p⟩ => by
  cases e
  exact p H .refl w
theorem xo_some {e : Expr} {f : ME} (h : XE X f e) : XO X (oSome f) (some e) := po_weak (po_some h) fun σ H Q ⟨ρ, O, cs, o, cs', e, en, w, p⟩ => by
  obtain ⟨⟨r, cs1⟩, h1, e⟩ := Option.bind_eq_some_iff.mp e
  obtain ⟨i, h2, e⟩ := Option.map_eq_some_iff.mp e
  cases e
  obtain rfl : r = di i := intOf_some h2
  refine ⟨ρ, O, cs, _, cs1, h1, en, w, fun v H' c' w' rv => ?_⟩
  cases (show Rp X.K (hd O H') v (.int i) from rv)
  exact ⟨i, rfl, p H' c' w'⟩
def cutD (ds : List D) (lo hi : Option Int) : List D := (ds.drop (HT.sIx ds.length 0 lo)).take (HT.sIx ds.length ds.length hi - HT.sIx ds.length 0 lo)
def dSl (d : D) (lo hi : Option Int) : Option Rv := match d with
  | .list ds => some (.fr (cutD ds lo hi))
  | .tuple ds => some (.dat (.tuple (cutD ds lo hi)))
  | .str x => some (.dat (.str (cutS x lo hi)))
  | _ => none
def rSlD (K : PySem.W.Frag) : V → Option Int → Option Int → Hp → VK → Prop := fun x lo hi H Q => rSlL K x lo hi H Q ∨ rSlA K x lo hi H Q ∨ rSlS x lo hi H Q
theorem sl_D : SlR X (rSlD X.K) := SlR.or sl_list (SlR.or sl_tupA sl_str)
theorem cut_rp {K : PySem.W.Frag} {H : Hp} {vs : List V} {ds : List D} (r : RpAll K H vs ds) (lo hi : Option Int) : RpAll K H (cutV vs lo hi) (cutD ds lo hi) := by
  unfold cutV cutD
  rw [r.length]
  exact (r.drop _).take _
def mSl (f : ME) (lo hi : MO) : ME := fun ρ cs => (f ρ cs).bind fun p => (lo ρ p.2).bind fun l => (hi ρ l.2).bind fun u => (rd (deg p.1) u.2).bind fun d => (dSl d l.1 u.1).map fun z => (z, u.2)
theorem xe_slice {e : Expr} {lo hi : Option Expr} {f : ME} {fl fh : MO} {p2 pos : Pos} (he : XE X f e) (hl : XO X fl lo) (hh : XO X fh hi) : XE X (mSl f fl fh) (.Subscript e (.Slice lo hi none p2) pos) :=
  pe_weak (pe_slice sl_D he hl hh) fun σ H Q ⟨ρ, O, cs, z, cs', e0, en, w, p⟩ => by
    obtain ⟨⟨x, cs1⟩, h1, e1⟩ := Option.bind_eq_some_iff.mp e0
    obtain ⟨⟨l, cs2⟩, h2, e2⟩ := Option.bind_eq_some_iff.mp e1
    obtain ⟨⟨u, cs3⟩, h3, e3⟩ := Option.bind_eq_some_iff.mp e2
    obtain ⟨d, h4, e4⟩ := Option.bind_eq_some_iff.mp e3
    obtain ⟨z', h5, e5⟩ := Option.map_eq_some_iff.mp e4
    clear e0 e1 e2 e3 e4
    cases e5
    refine ⟨ρ, O, cs, x, cs1, h1, en, w, fun v1 H1 c1 w1 r1 => ?_⟩
    refine ⟨ρ, O, cs1, l, cs2, h2, en.ch c1, w1, fun H2 c2 w2 => ?_⟩
    refine ⟨ρ, O, cs2, u, cs3, h3, en.ch (c1.trans c2), w2, fun H3 c3 w3 => ?_⟩
    have sx := ((r1.deg.ch c2).ch c3).sh w3 h4
    have p' := p.step ((c1.trans c2).trans c3) w3
    cases d with
    | list ds =>
      cases h5
      obtain ⟨a, vs, rfl, q1, r⟩ := sx.list
      exact .inl ⟨a, vs, rfl, q1.sq, post_list w3 (cut_rp r _ _) p'⟩
    | tuple ds =>
      cases h5
      have sx' := sx
      obtain ⟨a, vs, rfl, q1, r⟩ := sx.tuple
      refine .inr (.inl ⟨a, vs, rfl, .inl q1, fun hw => ?_, fun _ => post_tup w3 (cut_rp r _ _) p'⟩)
      have : cutD ds l u = ds := by
        unfold cutD
        rw [← r.length, hw.1, hw.2]
        simp [r.length]
      rw [this] at p'
      rcases sx' with sx' | ⟨_, _, _, _, h, _⟩
      · exact post_val w3 sx' p'
      · cases h
    | str y =>
      cases h5
      obtain ⟨rfl, hz⟩ := sx.str
      exact .inr (.inr ⟨y, rfl, hz, post_str w3 (Nat.le_trans (cutS_length y _ _) hz) p'⟩)
    | _ => cases h5
/-- xs[::-1] -/
def dRev : D → Option Rv
  | .list ds => some (.fr ds.reverse)
  | _ => none
theorem xe_rev {e : Expr} {f : ME} {k : Nat} {p1 p2 p3 pos : Pos} (he : XE X f e) : XE X (mU dRev f) (.Subscript e (.Slice none none (some (.UnaryOp .USub (.Constant (.int 1) k p1) p2)) p3) pos) :=
  pe_weak (pe_revL he) fun σ H Q ⟨ρ, O, cs, z, cs', e0, en, w, p⟩ => by
    obtain ⟨x, d, h1, h2, h3⟩ := mU_some e0
    refine ⟨ρ, O, cs, x, cs', h1, en, w, fun v1 H1 c1 w1 r1 => ?_⟩
    cases d with
    | list ds =>
      cases h3
      obtain ⟨a, vs, rfl, q1, r⟩ := (r1.deg.sh w1 h2).list
      exact ⟨a, vs, rfl, q1.sq, post_list w1 r.reverse (p.step c1 w1)⟩
    | _ => cases h3
end
end DL
namespace DL
open PySem PySem.Spec PyProof.Rows L2

/-! ### statements -/
inductive Out where
  | nx (ρ : Rho) (cs : Cs)
  | rt (r : Rv) (cs : Cs)
  | bk (ρ : Rho) (cs : Cs)
  | ct (ρ : Rho) (cs : Cs)
/-- the first argument: how many cells there were at the def's entry -/
abbrev MS := Nat → Rho → Cs → Option Out
structure Ext (n0 : Nat) (O O' : List (Option Addr)) (H : Hp) : Prop where
  pre : ∀ i, i < n0 → O'[i]? = O[i]?
  sub : ∀ a, a ∈ live O' → a ∈ live O ∨ H a = none
theorem Ext.refl {n0 : Nat} {O : List (Option Addr)} {H : Hp} : Ext n0 O O H := ⟨fun _ _ => rfl, fun _ h => .inl h⟩
theorem Ext.trans {n0 : Nat} {O O1 O2 : List (Option Addr)} {H H1 : Hp} {K : PySem.W.Frag} {cs : Cs} (w : Wd K O cs H) {cs1 : Cs} (w1 : Wd K O1 cs1 H1) (a : Ext n0 O O1 H) (c : Ch O H H1) (b : Ext n0 O1 O2 H1) : Ext n0 O O2 H := by
  refine ⟨fun i hi => (b.pre i hi).trans (a.pre i hi), fun x hx => ?_⟩
  rcases b.sub x hx with h | h
  · exact a.sub x h
  · by_cases hl : x ∈ live O
    · exact .inl hl
    · refine .inr ?_
      cases q : H x with
      | none => rfl
      | some o =>
        have := c x o hl q
        rw [h] at this; cases this
theorem Ch.ext {n0 : Nat} {O O1 : List (Option Addr)} {H H1 H2 : Hp} (a : Ch O H H1) (e : Ext n0 O O1 H) (b : Ch O1 H1 H2) : Ch O H H2 := fun x o n h => by
  refine b x o (fun z => ?_) (a x o n h)
  rcases e.sub x z with q | q
  · exact n q
  · rw [h] at q; cases q
/-- the data's heap grows -/
def Sub (O : List (Option Addr)) (H : Hp) (O' : List (Option Addr)) (H' : Hp) : Prop := ∀ a o, hd O H a = some o → hd O' H' a = some o
theorem Sub.of {n0 : Nat} {O O' : List (Option Addr)} {H H' : Hp} (e : Ext n0 O O' H) (c : Ch O H H') : Sub O H O' H' := fun a o h => by
  obtain ⟨n, q⟩ := hd_some h
  refine hd_of (fun z => ?_) (c a o n q)
  rcases e.sub a z with r | r
  · exact n r
  · rw [q] at r; cases r
theorem Sub.trans {O O1 O2 : List (Option Addr)} {H H1 H2 : Hp} (a : Sub O H O1 H1) (b : Sub O1 H1 O2 H2) : Sub O H O2 H2 := fun x o h => b x o (a x o h)
def PostS (K : PySem.W.Frag) (n0 : Nat) (O : List (Option Addr)) (H : Hp) (out : Out) (D : Ends) : Prop :=
  match out with
  | .nx ρ' cs' => ∀ σ' O' H', Ext n0 O O' H → Ch O H H' → EnvOk K O' H' ρ' σ' → Wd K O' cs' H' → D.nx σ' H'
  | .rt r cs' => ∀ v O' H', Ext n0 O O' H → Ch O H H' → Wd K O' cs' H' → ArR K O' r v H' → D.rt v H'
  | .bk ρ' cs' => ∀ σ' O' H', Ext n0 O O' H → Ch O H H' → EnvOk K O' H' ρ' σ' → Wd K O' cs' H' → D.bk σ' H'
  | .ct ρ' cs' => ∀ σ' O' H', Ext n0 O O' H → Ch O H H' → EnvOk K O' H' ρ' σ' → Wd K O' cs' H' → D.ct σ' H'
def tS (K : PySem.W.Frag) (g : MS) : TS := fun D σ H => ∃ n0 ρ O cs out, g n0 ρ cs = some out ∧ n0 ≤ O.length ∧ EnvOk K O H ρ σ ∧ Wd K O cs H ∧ PostS K n0 O H out D
def XS (X : Cx) (g : MS) (st : Stmt) : Prop := PS X st (tS X.K g)
def XSs (X : Cx) (g : MS) (st : List Stmt) : Prop := PSs X st (tS X.K g)
theorem pss_weak {X : Cx} {e : List Stmt} {t t' : TS} (h : PSs X e t) (w : ∀ D σ H, t' D σ H → t D σ H) : PSs X e t' := ⟨fun pins s σ H D I q => h.run pins s σ H D I (w _ _ _ q)⟩
/-- a post goes on from a later state -/
theorem PostS.step {K : PySem.W.Frag} {n0 : Nat} {O O1 : List (Option Addr)} {H H1 : Hp} {out : Out} {D : Ends} {cs cs1 : Cs} (h : PostS K n0 O H out D) (w : Wd K O cs H) (w1 : Wd K O1 cs1 H1) (e : Ext n0 O O1 H) (c : Ch O H H1) : PostS K n0 O1 H1 out D := by
  cases out with
  | nx ρ' cs' => exact fun σ' O' H' e' c' en' w' => h σ' O' H' (e.trans w w1 c e') (c.ext e c') en' w'
  | rt r cs' => exact fun v O' H' e' c' w' r' => h v O' H' (e.trans w w1 c e') (c.ext e c') w' r'
  | bk ρ' cs' => exact fun σ' O' H' e' c' en' w' => h σ' O' H' (e.trans w w1 c e') (c.ext e c') en' w'
  | ct ρ' cs' => exact fun σ' O' H' e' c' en' w' => h σ' O' H' (e.trans w w1 c e') (c.ext e c') en' w'
theorem PostS.ends {K : PySem.W.Frag} {n0 : Nat} {O : List (Option Addr)} {H : Hp} {out : Out} {D D' : Ends} (h : PostS K n0 O H out D) (a : D'.rt = D.rt) (b : D'.bk = D.bk) (c : D'.ct = D.ct) (hn : ∀ ρ cs, out ≠ .nx ρ cs) : PostS K n0 O H out D' := by
  cases out with
  | nx ρ' cs' => exact absurd rfl (hn _ _)
  | rt r cs' => show ∀ v O' H', _ → _ → _ → _ → D'.rt v H'; rw [a]; exact h
  | bk ρ' cs' => show ∀ v O' H', _ → _ → _ → _ → D'.bk v H'; rw [b]; exact h
  | ct ρ' cs' => show ∀ v O' H', _ → _ → _ → _ → D'.ct v H'; rw [c]; exact h

section
variable {X : Cx}
def sNil : MS := fun _ ρ cs => some (.nx ρ cs)
def sSeq (f g : MS) : MS := fun n0 ρ cs => (f n0 ρ cs).bind fun o => match o with
  | .nx ρ1 cs1 => g n0 ρ1 cs1
  | o => some o
theorem Wd.lenO {K : PySem.W.Frag} {O : List (Option Addr)} {cs : Cs} {H : Hp} (w : Wd K O cs H) : O.length = cs.length := w.len.symm
theorem Ext.len {n0 : Nat} {O O' : List (Option Addr)} {H : Hp} (e : Ext n0 O O' H) (h : n0 ≤ O.length) : n0 ≤ O'.length := by
  cases n0 with
  | zero => exact Nat.zero_le _
  | succ n =>
    have h1 := e.pre n (Nat.lt_succ_self n)
    have h2 : O[n]? = some O[n] := List.getElem?_eq_getElem h
    rw [h2] at h1
    exact (List.getElem?_eq_some_iff.mp h1).1
theorem xs_nil : XSs X sNil [] := pss_weak pss_nil fun D σ H ⟨n0, ρ, O, cs, out, e, hn, en, w, p⟩ => by
  cases e
  exact p σ O H .refl .refl en w
theorem tSeq_of {K : PySem.W.Frag} {f g : MS} {D : Ends} {σ : L2.St} {H : Hp} (h : tS K (sSeq f g) D σ H) : tSeq (tS K f) (tS K g) D σ H := by
  obtain ⟨n0, ρ, O, cs, out, e, hn, en, w, p⟩ := h
  obtain ⟨o, h1, h2⟩ := Option.bind_eq_some_iff.mp e
  refine ⟨n0, ρ, O, cs, o, h1, hn, en, w, ?_⟩
  cases o with
  | nx ρ1 cs1 =>
    intro σ1 O1 H1 e1 c1 en1 w1
    exact ⟨n0, ρ1, O1, cs1, out, h2, e1.len hn, en1, w1, p.step w w1 e1 c1⟩
  | rt r cs1 => cases h2; exact p
  | bk r cs1 => cases h2; exact p
  | ct r cs1 => cases h2; exact p
theorem xs_cons {st : Stmt} {rest : List Stmt} {f g : MS} (h1 : XS X f st) (h2 : XSs X g rest) : XSs X (sSeq f g) (st :: rest) := pss_weak (pss_cons h1 h2) fun D σ H h => tSeq_of h
theorem xs_one {st : Stmt} {f : MS} (h1 : XS X f st) : XSs X f [st] := pss_one h1
theorem xs_pass {pos : Pos} : XS X sNil (.Pass pos) := ps_weak ps_pass fun D σ H ⟨n0, ρ, O, cs, out, e, hn, en, w, p⟩ => by
  cases e
  exact p σ O H .refl .refl en w
def sBrk : MS := fun _ ρ cs => some (.bk ρ cs)
def sCnt : MS := fun _ ρ cs => some (.ct ρ cs)
theorem xs_break {pos : Pos} : XS X sBrk (.Break pos) := ps_weak ps_break fun D σ H ⟨n0, ρ, O, cs, out, e, hn, en, w, p⟩ => by
  cases e
  exact p σ O H .refl .refl en w
theorem xs_continue {pos : Pos} : XS X sCnt (.Continue pos) := ps_weak ps_continue fun D σ H ⟨n0, ρ, O, cs, out, e, hn, en, w, p⟩ => by
  cases e
  exact p σ O H .refl .refl en w
/-- never reached -/
def sNev : MS := fun _ _ _ => none
theorem xs_never {st : Stmt} : XS X sNev st := ps_weak ps_never fun D σ H ⟨n0, ρ, O, cs, out, e, _⟩ => by cases e
theorem xss_never {st : List Stmt} : XSs X sNev st := pss_weak pss_never fun D σ H ⟨n0, ρ, O, cs, out, e, _⟩ => by cases e
/-- an expression dropped -/
def sExpr (f : ME) : MS := fun _ ρ cs => (f ρ cs).map fun p => .nx ρ p.2
theorem xs_expr {e : Expr} {f : ME} {pos : Pos} (he : XE X f e) (hs : swapsWith e none pos.line X.env = pure false := by rfl) : XS X (sExpr f) (.Expr e pos) :=
  ps_weak (ps_expr he hs) fun D σ H ⟨n0, ρ, O, cs, out, e0, hn, en, w, p⟩ => by
    obtain ⟨⟨r, cs1⟩, h1, h2⟩ := Option.map_eq_some_iff.mp e0
    subst h2
    exact ⟨ρ, O, cs, r, cs1, h1, en, w, fun v H' c w' _ => p σ O H' .refl c (en.ch c) w'⟩
/-- a new owned cell -/
theorem ext_new {K : PySem.W.Frag} {n0 : Nat} {O : List (Option Addr)} {H : Hp} {p : Addr} (hn : n0 ≤ O.length) (hp : H p = none) : Ext n0 O (O ++ [some p]) H := by
  refine ⟨fun i hi => List.getElem?_append_left (by omega), fun a ha => ?_⟩
  obtain ⟨i, q⟩ := mem_live.mp ha
  by_cases hi : i < O.length
  · rw [List.getElem?_append_left hi] at q
    exact .inl (mem_live.mpr ⟨i, q⟩)
  · rw [List.getElem?_append_right (by omega)] at q
    have h0 : i - O.length = 0 := by
      have := (List.getElem?_eq_some_iff.mp q).1
      simp at this; omega
    rw [h0] at q
    simp at q
    subst q
    exact .inr hp
theorem EnvOk.ext {K : PySem.W.Frag} {n0 : Nat} {O : List (Option Addr)} {H H' : Hp} {ρ : Rho} {σ : L2.St} {p : Addr} (en : EnvOk K O H ρ σ) (hp : H p = none) (c : Ch O H H') : EnvOk K (O ++ [some p]) H' ρ σ := by
  have sb : Sub O H (O ++ [some p]) H' := Sub.of (n0 := 0) (ext_new (K := K) (Nat.zero_le _) hp) c
  refine ⟨en.len, fun i r h => ?_⟩
  obtain ⟨v, h1, h2⟩ := en.slot i r h
  refine ⟨v, h1, ?_⟩
  cases r with
  | dat d => exact Rp.mono sb h2
  | own k =>
    obtain ⟨a, e, q⟩ := h2
    exact ⟨a, e, by rw [List.getElem?_append_left (List.getElem?_eq_some_iff.mp q).1]; exact q⟩
  | fr c => exact h2
/-- name = value: data -/
def sSet (i : Nat) (f : ME) : MS := fun _ ρ cs => (f ρ cs).bind fun p => match deg p.1 with
  | .dat d => some (.nx (ρ.set i (some (.dat d))) p.2)
  | _ => none
/-- name = a fresh list, to be changed in place -/
def sOwn (i : Nat) (f : ME) : MS := fun _ ρ cs => (f ρ cs).bind fun p => match p.1 with
  | .fr c => some (.nx (ρ.set i (some (.own p.2.length))) (p.2 ++ [some c]))
  | _ => none
theorem tSet_of {K : PySem.W.Frag} {i : Nat} {f : ME} {D : Ends} {σ : L2.St} {H : Hp} (h : tS K (sSet i f) D σ H) : tAsg (tX K f) (gName i) D σ H := by
  obtain ⟨n0, ρ, O, cs, out, e0, hn, en, w, p⟩ := h
  obtain ⟨⟨r, cs1⟩, h1, h2⟩ := Option.bind_eq_some_iff.mp e0
  refine ⟨ρ, O, cs, r, cs1, h1, en, w, fun v H' c w' rv => ?_⟩
  have rr := rv.deg
  dsimp only at h2
  split at h2
  · rename_i d hd
    cases h2
    rw [hd] at rr
    exact p _ O H' .refl c ((en.ch c).set i rr) w'
  · cases h2
theorem tOwn_of {K : PySem.W.Frag} {i : Nat} {f : ME} {D : Ends} {σ : L2.St} {H : Hp} (h : tS K (sOwn i f) D σ H) : tAsg (tX K f) (gName i) D σ H := by
  obtain ⟨n0, ρ, O, cs, out, e0, hn, en, w, p⟩ := h
  obtain ⟨⟨r, cs1⟩, h1, h2⟩ := Option.bind_eq_some_iff.mp e0
  refine ⟨ρ, O, cs, r, cs1, h1, en, w, fun v H' c w' rv => ?_⟩
  cases r with
  | fr l =>
    cases h2
    obtain ⟨q, rfl, hq, w2⟩ := rv
    refine p _ (O ++ [some q]) H' (ext_new (K := K) hn hq) c ((en.ext (n0 := 0) hq c).set i ⟨q, rfl, ?_⟩) w2
    show (O ++ [some q])[cs1.length]? = some (some q)
    rw [w'.len]; simp
  | _ => cases h2
theorem xs_set {i : Nat} {x : Str} {e : Expr} {f : ME} {pos pos' : Pos} (hN : X.N.Nodup) (hi : X.N[i]? = some x) (hx : Loc X.env.scope x) (he : XE X f e) (hs : swapsWith e (some (.Name x pos')) pos.line X.env = pure false := by rfl)
    (hf : X.fn x = true ∨ X.env.scope.names.lookup x = some .local := by first | exact .inl rfl | exact .inr rfl) : XS X (sSet i f) (.Assign [.Name x pos'] e pos) := ps_weak (ps_set hN hi hx he hs hf) fun D σ H h => tSet_of h
theorem xs_own {i : Nat} {x : Str} {e : Expr} {f : ME} {pos pos' : Pos} (hN : X.N.Nodup) (hi : X.N[i]? = some x) (hx : Loc X.env.scope x) (he : XE X f e) (hs : swapsWith e (some (.Name x pos')) pos.line X.env = pure false := by rfl)
    (hf : X.fn x = true ∨ X.env.scope.names.lookup x = some .local := by first | exact .inl rfl | exact .inr rfl) : XS X (sOwn i f) (.Assign [.Name x pos'] e pos) := ps_weak (ps_set hN hi hx he hs hf) fun D σ H h => tOwn_of h
/-- return -/
def sRet (f : ME) : MS := fun n0 ρ cs => (f ρ cs).bind fun p => match p.1 with
  | .dat d => some (.rt (.dat d) p.2)
  | .fr c => some (.rt (.own p.2.length) (p.2 ++ [some c]))
  | .own k => if n0 ≤ k then some (.rt (.own k) p.2) else none
theorem xs_ret {e : Expr} {f : ME} {pos : Pos} (he : XE X f e) : XS X (sRet f) (.Return (some e) pos) :=
  ps_weak (ps_ret he) fun D σ H ⟨n0, ρ, O, cs, out, e0, hn, en, w, p⟩ => by
    obtain ⟨⟨r, cs1⟩, h1, h2⟩ := Option.bind_eq_some_iff.mp e0
    refine ⟨ρ, O, cs, r, cs1, h1, en, w, fun v H' c w' rv => ?_⟩
    cases r with
    | dat d => cases h2; exact p v O H' .refl c w' rv
    | own k =>
      obtain ⟨_, h3⟩ := ite_some h2
      subst h3
      exact p v O H' .refl c w' rv
    | fr l =>
      cases h2
      obtain ⟨q, rfl, hq, w2⟩ := rv
      refine p _ (O ++ [some q]) H' (ext_new (K := X.K) hn hq) c w2 ⟨q, rfl, ?_⟩
      show (O ++ [some q])[cs1.length]? = some (some q)
      rw [w'.len]; simp
def sRetN : MS := fun _ _ cs => some (.rt (.dat .none) cs)
theorem xs_retN {pos : Pos} : XS X sRetN (.Return none pos) := ps_weak ps_retN fun D σ H ⟨n0, ρ, O, cs, out, e0, hn, en, w, p⟩ => by
  cases e0
  exact p .non O H .refl .refl w .non
/-- if -/
def sIf (c : MT) (f g : MS) : MS := fun n0 ρ cs => (c ρ cs).bind fun p => if p.1 = true then f n0 ρ p.2 else g n0 ρ p.2
theorem xs_if {c : Expr} {a b : List Stmt} {t : MT} {f g : MS} {pos : Pos} (hc : XT X t c) (ha : XSs X f a) (hb : XSs X g b) : XS X (sIf t f g) (.If c a b pos) :=
  ps_weak (ps_if hc ha hb) fun D σ H ⟨n0, ρ, O, cs, out, e0, hn, en, w, p⟩ => by
    obtain ⟨⟨k, cs1⟩, h1, h2⟩ := Option.bind_eq_some_iff.mp e0
    refine ⟨ρ, O, cs, k, cs1, h1, en, w, fun H1 c1 w1 => ?_⟩
    cases k with
    | true => exact ⟨n0, ρ, O, cs1, out, h2, hn, en.ch c1, w1, p.step w w1 .refl c1⟩
    | false => exact ⟨n0, ρ, O, cs1, out, h2, hn, en.ch c1, w1, p.step w w1 .refl c1⟩
/-- an owned cell is given up: data from now on -/
def sFrz (i : Nat) (f : MS) : MS := fun n0 ρ cs => match ρ[i]? with
  | some (some (.own k)) => if n0 ≤ k then (match cs[k]? with
    | some (some c) => f n0 ((ρ.map fun r => match r with
        | some (.own j) => if j = k then none else some (.own j)
        | r => r).set i (some (.dat (.list c)))) (cs.set k none)
    | _ => none) else none
  | _ => none
end
end DL
namespace DL
open PySem PySem.Spec PyProof.Rows L2
section
variable {X : Cx}
theorem live_set {O : List (Option Addr)} {k : Nat} {a : Addr} (h : a ∈ live (O.set k none)) : a ∈ live O := by
  obtain ⟨i, q⟩ := mem_live.mp h
  refine mem_live.mpr ⟨i, ?_⟩
  by_cases e : k = i
  · subst e
    by_cases hk : k < O.length
    · rw [List.getElem?_set_self hk] at q; cases q
    · rw [List.getElem?_eq_none (by simp; omega)] at q; cases q
  · rw [List.getElem?_set_ne e] at q
    exact q
theorem Wd.freeze {K : PySem.W.Frag} {O : List (Option Addr)} {cs : Cs} {H : Hp} (w : Wd K O cs H) {k : Nat} : Wd K (O.set k none) (cs.set k none) H := by
  have sb : ∀ a o, hd O H a = some o → hd (O.set k none) H a = some o := fun a o h => by
    obtain ⟨n, e⟩ := hd_some h
    exact hd_of (fun z => n (live_set z)) e
  have get : ∀ {i : Nat} {x : Addr}, (O.set k none)[i]? = some (some x) → O[i]? = some (some x) ∧ k ≠ i := fun {i x} q => by
    by_cases e : k = i
    · subst e
      by_cases hk : k < O.length
      · rw [List.getElem?_set_self hk] at q; cases q
      · rw [List.getElem?_eq_none (by simp; omega)] at q; cases q
    · rw [List.getElem?_set_ne e] at q
      exact ⟨q, e⟩
  refine ⟨by simp [w.len], fun i j a h1 h2 => w.inj i j a (get h1).1 (get h2).1, fun i a h => ?_, fun i h => ?_⟩
  · obtain ⟨h1, ne⟩ := get h
    obtain ⟨c, vs, h2, h3, h4⟩ := w.cell i a h1
    exact ⟨c, vs, by rw [List.getElem?_set_ne ne]; exact h2, h3, h4.mono sb⟩
  · by_cases e : k = i
    · subst e
      have hk : k < cs.length := by
        have := (List.getElem?_eq_some_iff.mp h).1
        rw [w.len]; simpa using this
      rw [List.getElem?_set_self hk]
    · rw [List.getElem?_set_ne e] at h ⊢
      exact w.ded i h
theorem xs_frz {st : Stmt} {i : Nat} {f : MS} (h : XS X f st) : XS X (sFrz i f) st := ps_weak h fun D σ H ⟨n0, ρ, O, cs, out, e0, hn, en, w, p⟩ => by
  unfold sFrz at e0
  split at e0
  · rename_i k hk
    split at e0
    · rename_i hnk
      split at e0
      · rename_i c hc
        obtain ⟨a, vs, h1, h2, h3⟩ := w.of hc
        have wf : Wd X.K (O.set k none) (cs.set k none) H := w.freeze
        have sb : ∀ b o, hd O H b = some o → hd (O.set k none) H b = some o := fun b o hb => by
          obtain ⟨n, e⟩ := hd_some hb
          exact hd_of (fun z => n (live_set z)) e
        have na : a ∉ live (O.set k none) := fun z => by
          obtain ⟨j, q⟩ := mem_live.mp z
          by_cases ej : k = j
          · subst ej
            rw [List.getElem?_set_self (List.getElem?_eq_some_iff.mp h1).1] at q; cases q
          · rw [List.getElem?_set_ne ej] at q
            exact ej (w.inj k j a h1 q)
        have rp : Rp X.K (hd (O.set k none) H) (.ref a) (.list c) := .lst (.inl (.inl (hd_of na h2))) (h3.mono sb)
        have ex : Ext n0 O (O.set k none) H := ⟨fun j hj => List.getElem?_set_ne (by omega), fun b hb => .inl (live_set hb)⟩
        refine ⟨n0, _, O.set k none, cs.set k none, out, e0, by simpa using hn, ⟨by simp [en.len], fun j r hj => ?_⟩, wf, p.step w wf ex .refl⟩
        by_cases e : i = j
        · subst e
          have hi : i < ρ.length := (List.getElem?_eq_some_iff.mp hk).1
          rw [List.getElem?_set_self (by simpa using hi)] at hj
          cases hj
          obtain ⟨v, q1, b, rfl, q2⟩ := en.slot i _ hk
          rw [h1] at q2; cases q2
          exact ⟨_, q1, rp⟩
        · rw [List.getElem?_set_ne e, List.getElem?_map] at hj
          cases q : ρ[j]? with
          | none => rw [q] at hj; cases hj
          | some r0 =>
            rw [q] at hj
            cases r0 with
            | none => cases hj
            | some r1 =>
              cases r1 with
              | dat d =>
                cases hj
                obtain ⟨v, q1, q2⟩ := en.slot j _ q
                exact ⟨v, q1, Rp.mono sb q2⟩
              | fr l =>
                obtain ⟨v, q1, q2⟩ := en.slot j _ q
                exact q2.elim
              | own l =>
                obtain ⟨v, q1, b, q2, q3⟩ := en.slot j _ q
                have hj' : (if l = k then none else some (Rv.own l)) = some r := by
                  have := Option.some.inj hj
                  exact this
                split at hj'
                · cases hj'
                · rename_i ne
                  cases hj'
                  exact ⟨v, q1, b, q2, by rw [List.getElem?_set_ne (Ne.symm ne)]; exact q3⟩
      · cases e0
    · cases e0
  · cases e0

/-! targets -/
abbrev MG := D → Rho → Option Rho
def tG (K : PySem.W.Frag) (vs : List Nat) (g : MG) : TG := fun v σ H Q => ∃ ρ O cs d ρ', g d ρ = some ρ' ∧ Rp K (hd O H) v d ∧ EnvOk K O H ρ σ ∧ Wd K O cs H ∧ ∀ σ', EnvOk K O H ρ' σ' → wipe σ' vs = wipe σ vs → Q σ' H
def XG (X : Cx) (vs : List Nat) (g : MG) (e : Expr) : Prop := PG X e (tG X.K vs g)
theorem wipe_get (σ : L2.St) (j : Nat) : ∀ vs : List Nat, (wipe σ vs)[j]? = if j ∈ vs ∧ j < σ.length then some none else σ[j]?
  | [] => by simp [wipe]
  | v :: vs => by
    have ih := wipe_get σ j vs
    unfold wipe
    rw [List.getElem?_set, ih, wipe_length]
    by_cases h : v = j
    · subst h
      by_cases hj : v < σ.length <;> simp [hj]
    · have h' : j ≠ v := fun e => h e.symm
      rw [if_neg h]
      simp [h']
theorem wipe_set {σ : L2.St} {i : Nat} {x : Option V} {vs : List Nat} (h : i ∈ vs) : wipe (σ.set i x) vs = wipe σ vs := by
  apply List.ext_getElem?
  intro j
  rw [wipe_get, wipe_get, List.length_set]
  by_cases c : j ∈ vs ∧ j < σ.length
  · rw [if_pos c, if_pos c]
  · rw [if_neg c, if_neg c]
    by_cases e : i = j
    · subst e
      have hi : ¬ i < σ.length := fun z => c ⟨h, z⟩
      rw [List.getElem?_eq_none (by simp; omega), List.getElem?_eq_none (by omega)]
    · rw [List.getElem?_set_ne e]
def gNm (i : Nat) : MG := fun d ρ => some (ρ.set i (some (.dat d)))
theorem pg_weak {e : Expr} {t t' : TG} (h : PG X e t) (w : ∀ v σ H Q, t' v σ H Q → t v σ H Q) : PG X e t' := ⟨fun pins s σ H v u Q I r q => h.run pins s σ H v u Q I r (w _ _ _ _ q)⟩
theorem xg_name {i : Nat} {x : Str} {pos : Pos} {vs : List Nat} (hN : X.N.Nodup) (hi : X.N[i]? = some x) (hx : Loc X.env.scope x) (hm : i ∈ vs := by simp) (hf : X.fn x = true ∨ X.env.scope.names.lookup x = some .local := by first | exact .inl rfl | exact .inr rfl) : XG X vs (gNm i) (.Name x pos) :=
  pg_weak (pg_name hN hi hx hf) fun v σ H Q ⟨ρ, O, cs, d, ρ', e, r, en, w, p⟩ => by
    cases e
    exact p _ (en.set i (r := .dat d) r) (wipe_set hm)
abbrev MGs := List D → Rho → Option Rho
def tGs (K : PySem.W.Frag) (ws : List Nat) (g : MGs) : TGs := fun vs σ H Q => ∃ ρ O cs ds ρ', g ds ρ = some ρ' ∧ RpAll K (hd O H) vs ds ∧ EnvOk K O H ρ σ ∧ Wd K O cs H ∧ ∀ σ', EnvOk K O H ρ' σ' → wipe σ' ws = wipe σ ws → Q σ' H
def XGs (X : Cx) (ws : List Nat) (g : MGs) (es : List Expr) : Prop := PGs X es (tGs X.K ws g)
theorem pgs_weak {e : List Expr} {t t' : TGs} (h : PGs X e t) (w : ∀ v σ H Q, t' v σ H Q → t v σ H Q) : PGs X e t' := ⟨fun pins s σ H v u Q I r q => h.run pins s σ H v u Q I r (w _ _ _ _ q)⟩
def gsNil : MGs := fun ds ρ => match ds with
  | [] => some ρ
  | _ => none
def gsCons (g : MG) (h : MGs) : MGs := fun ds ρ => match ds with
  | d :: r => (g d ρ).bind fun ρ1 => h r ρ1
  | [] => none
theorem xgs_nil {ws : List Nat} : XGs X ws gsNil [] := pgs_weak pgs_nil fun vs σ H Q ⟨ρ, O, cs, ds, ρ', e, r, en, w, p⟩ => by
  cases ds with
  | nil =>
    cases e
    cases r
    exact ⟨rfl, p σ en rfl⟩
  | cons _ _ => cases e
theorem xgs_cons {e : Expr} {es : List Expr} {g : MG} {h : MGs} {ws : List Nat} (h1 : XG X ws g e) (h2 : XGs X ws h es) (hs : (assignEach (e :: es) X.env).map (·.2) = assign e X.env :: (assignEach es X.env).map (·.2) := by rfl) : XGs X ws (gsCons g h) (e :: es) :=
  pgs_weak (pgs_cons h1 h2 hs) fun vs σ H Q ⟨ρ, O, cs, ds, ρ', e0, r, en, w, p⟩ => by
    cases ds with
    | nil => cases e0
    | cons d ds =>
      cases r with
      | cons r1 r2 =>
        obtain ⟨ρ1, h3, h4⟩ := Option.bind_eq_some_iff.mp e0
        exact ⟨_, _, rfl, ρ, O, cs, d, ρ1, h3, r1, en, w, fun σ1 en1 q1 => ⟨ρ1, O, cs, ds, ρ', h4, r2, en1, w, fun σ2 en2 q2 => p σ2 en2 (q2.trans q1)⟩⟩
def gTp (n : Nat) (g : MGs) : MG := fun d ρ => match d with
  | .tuple ds => if ds.length = n then g ds ρ else none
  | _ => none
theorem xg_tup {es : List Expr} {k : Nat} {g : MGs} {n : Nat} {pos : Pos} {ws : List Nat} (hc : X.calm = true) (h : XGs X ws g es) (hn : (assignEach es X.env).length = n := by rfl) (hst : (assignEach es X.env).findIdx? (·.1) = none := by rfl) : XG X ws (gTp n g) (.Tuple es k pos) :=
  pg_weak (pg_tup hc h hn hst) fun v σ H Q ⟨ρ, O, cs, d, ρ', e, r, en, w, p⟩ => by
    cases d with
    | tuple ds =>
      have e' : (if ds.length = n then g ds ρ else none) = some ρ' := e
      by_cases hl : ds.length = n
      · rw [if_pos hl] at e'
        cases r with
        | tup q rr => exact ⟨_, _, rfl, .inl (rd_mono hd_le q), by rw [rr.length]; exact hl, ρ, O, cs, ds, ρ', e', rr, en, w, p⟩
      · rw [if_neg hl] at e'; cases e'
    | _ => cases e
/-- target = value, any target of names -/
def sAsg (f : ME) (g : MG) : MS := fun _ ρ cs => (f ρ cs).bind fun p => match deg p.1 with
  | .dat d => (g d ρ).map fun ρ' => .nx ρ' p.2
  | _ => none
theorem xs_asg {tg e : Expr} {f : ME} {g : MG} {pos : Pos} {ws : List Nat} (he : XE X f e) (hg : XG X ws g tg) (hs : swapsWithSole [tg] e pos.line X.env = pure false := by rfl) (hw : swappedStores [tg] e X.env = pure none := by rfl)
    (h1 : (assignEach [tg] X.env).map (·.2) = [assign tg X.env] := by rfl) : XS X (sAsg f g) (.Assign [tg] e pos) :=
  ps_weak (ps_asg he hg hs hw h1) fun D σ H ⟨n0, ρ, O, cs, out, e0, hn, en, w, p⟩ => by
    obtain ⟨⟨r, cs1⟩, h1, h2⟩ := Option.bind_eq_some_iff.mp e0
    refine ⟨ρ, O, cs, r, cs1, h1, en, w, fun v H' c w' rv => ?_⟩
    have rr := rv.deg
    dsimp only at h2
    split at h2
    · rename_i d hd'
      obtain ⟨ρ', h3, h4⟩ := Option.map_eq_some_iff.mp h2
      subst h4
      rw [hd'] at rr
      exact ⟨ρ, O, cs1, d, ρ', h3, rr, en.ch c, w', fun σ' en' _ => p σ' O H' .refl c en' w'⟩
    · cases h2
/-- a, b = x, y -/
def sPar (i j : Nat) (fa : MA) : MS := fun _ ρ cs => (fa ρ cs).bind fun p => match p.1 with
  | [.dat d, .dat e] => some (.nx ((ρ.set i (some (.dat d))).set j (some (.dat e))) p.2)
  | _ => none
theorem xs_par {i j : Nat} {x y : Str} {a b : Expr} {fa : MA} {px py pt pos : Pos} {kt k2 pt2} (hc : X.calm = true) (hN : X.N.Nodup) (hi : X.N[i]? = some x) (hj : X.N[j]? = some y) (hij : i ≠ j)
    (hx : X.env.scope.names.lookup x = some .local) (hy : X.env.scope.names.lookup y = some .local) (ha : XA X fa [a, b])
    (hw : swappedStores [.Tuple [.Name x px, .Name y py] kt pt] (.Tuple [a, b] k2 pt2) X.env = pure (some [x, y]) := by rfl)
    (hs : swapsWithSole [.Tuple [.Name x px, .Name y py] kt pt] (.Tuple [a, b] k2 pt2) pos.line X.env = pure false := by rfl) :
    XS X (sPar i j fa) (.Assign [.Tuple [.Name x px, .Name y py] kt pt] (.Tuple [a, b] k2 pt2) pos) :=
  ps_weak (ps_par hc hN hi hj hij hx hy ha hw hs) fun D σ H ⟨n0, ρ, O, cs, out, e0, hn, en, w, p⟩ => by
    obtain ⟨⟨rs, cs1⟩, h1, h2⟩ := Option.bind_eq_some_iff.mp e0
    refine ⟨ρ, O, cs, rs, cs1, h1, en, w, fun vs H' c w' ra => ?_⟩
    dsimp only at h2
    split at h2
    · rename_i _ d e
      cases h2
      match vs, ra with
      | [v, u], ra => exact ⟨v, u, rfl, p _ O H' .refl c (((en.ch c).set i (r := .dat d) ra.1).set j (r := .dat e) ra.2.1) w'⟩
      | [], ra => exact ra.elim
      | [_], ra => exact ra.2.elim
      | _ :: _ :: _ :: _, ra => exact ra.2.2.elim
    · cases h2
/-! changes in place -/
/-- what is changed: a name's owned cell -/
def cellOf (r : Option (Option Rv)) : Option Nat := match r with
  | some (some (.own k)) => some k
  | _ => none
theorem cellOf_some {r : Option (Option Rv)} {k : Nat} (h : cellOf r = some k) : r = some (some (.own k)) := by
  match r, h with
  | some (some (.own _)), h => cases h; rfl
theorem Wd.write {K : PySem.W.Frag} {O : List (Option Addr)} {cs : Cs} {H : Hp} (w : Wd K O cs H) {k : Nat} {a : Addr} {vs : List V} {c : List D} (h : O[k]? = some (some a)) (r : RpAll K (hd O H) vs c) : Wd K O (cs.set k (some c)) (upd H a (.lst vs)) ∧ Ch O H (upd H a (.lst vs)) := by
  have la : a ∈ live O := mem_live.mpr ⟨k, h⟩
  have ch : Ch O H (upd H a (.lst vs)) := fun b o n e => by
    rw [upd_ne (fun z => n (by rw [z]; exact la))]; exact e
  have hk : k < cs.length := by rw [w.len]; exact (List.getElem?_eq_some_iff.mp h).1
  refine ⟨⟨by simp [w.len], w.inj, fun i b hb => ?_, fun i hi => ?_⟩, ch⟩
  · by_cases e : i = k
    · subst e
      rw [h] at hb; cases hb
      exact ⟨c, vs, by rw [List.getElem?_set_self hk], upd_same, r.mono ch.data⟩
    · obtain ⟨c', vs', h1, h2, h3⟩ := w.cell i b hb
      have nb : b ≠ a := fun z => e (w.inj i k b hb (by rw [z]; exact h))
      exact ⟨c', vs', by rw [List.getElem?_set_ne (Ne.symm e)]; exact h1, by rw [upd_ne nb]; exact h2, h3.mono ch.data⟩
  · by_cases e : i = k
    · subst e
      rw [h] at hi; cases hi
    · rw [List.getElem?_set_ne (Ne.symm e)]; exact w.ded i hi
/-- x[i] = e, x an owned cell -/
def sPut (x : Nat) (fi fe : ME) : MS := fun _ ρ cs => (fe ρ cs).bind fun p => (cellOf ρ[x]?).bind fun k => (fi ρ p.2).bind fun q => (intOf q.1).bind fun i => match deg p.1, q.2[k]? with
  | .dat d, some (some c) => (ixN c.length i).map fun j => .nx ρ (q.2.set k (some (c.set j d)))
  | _, _ => none
theorem xs_put {x : Nat} {nm : Str} {i e : Expr} {fi fe : ME} {p1 p2 pos : Pos} (hN : X.N[x]? = some nm) (hv : Vis X.env.scope nm) (hi : XE X fi i) (he : XE X fe e)
    (ha : ∀ v, assign (.Subscript (.Name nm p1) i p2) X.env v = (do
      let ov ← holding [v] (eval (.Name nm p1) X.env)
      let iv ← holding [v, ov] (eval i X.env)
      standAt p2
      holding [v, ov, iv] (setItem ov iv v)
      release [v, ov, iv] []) := by intro _; rfl)
    (hs : swapsWithSole [.Subscript (.Name nm p1) i p2] e pos.line X.env = pure false := by rfl) (hw : swappedStores [.Subscript (.Name nm p1) i p2] e X.env = pure none := by rfl)
    (h1 : (assignEach [.Subscript (.Name nm p1) i p2] X.env).map (·.2) = [assign (.Subscript (.Name nm p1) i p2) X.env] := by rfl)
    (hd : (nm == ("__debug__" : Str)) = false := by decide) (hcd : (nm == ("__classdict__" : Str)) = false := by decide) :
    XS X (sPut x fi fe) (.Assign [.Subscript (.Name nm p1) i p2] e pos) :=
  ps_weak (ps_asg he (pg_sub (pe_var hN hv hd hcd) hi set_list ha) hs hw h1) fun D σ H ⟨n0, ρ, O, cs, out, e0, hn, en, w, p⟩ => by
    obtain ⟨⟨r, cs1⟩, g1, e1⟩ := Option.bind_eq_some_iff.mp e0
    obtain ⟨k, g2, e2⟩ := Option.bind_eq_some_iff.mp e1
    obtain ⟨⟨y, cs2⟩, g3, e3⟩ := Option.bind_eq_some_iff.mp e2
    obtain ⟨m, g4, e4⟩ := Option.bind_eq_some_iff.mp e3
    clear e0 e1 e2 e3
    obtain rfl : y = di m := intOf_some g4
    refine ⟨ρ, O, cs, r, cs1, g1, en, w, fun v H1 c1 w1 rv => ?_⟩
    obtain ⟨u, q1, a, rfl, q2⟩ := en.slot x _ (cellOf_some g2)
    refine ⟨_, q1, ρ, O, cs1, _, cs2, g3, en.ch c1, w1, fun v2 H2 c2 w2 rv2 => ?_⟩
    have rr := rv.deg.ch c2
    dsimp only at e4
    split at e4
    · rename_i d c hd' hc'
      obtain ⟨j, g5, e5⟩ := Option.map_eq_some_iff.mp e4
      subst e5
      rw [hd'] at rr
      obtain ⟨c', vs, h5, h6, h7⟩ := w2.cell k a q2
      rw [hc'] at h5; cases h5
      cases (show Rp X.K (DL.hd O H2) v2 (.int m) from rv2)
      obtain ⟨w3, c3⟩ := w2.write q2 (h7.set rr j)
      exact ⟨a, vs, m, j, rfl, rfl, h6, by rw [h7.length]; exact g5, p σ O _ .refl ((c1.trans c2).trans c3) (en.ch ((c1.trans c2).trans c3)) w3⟩
    · cases e4
/-- x.append(e) -/
def sApp (x : Nat) (fe : ME) : MS := fun _ ρ cs => (cellOf ρ[x]?).bind fun k => (fe ρ cs).bind fun p => match deg p.1, p.2[k]? with
  | .dat d, some (some c) => if c.length < sizeLine then some (.nx ρ (p.2.set k (some (c ++ [d])))) else none
  | _, _ => none
end
end DL
namespace DL
open PySem PySem.Spec PyProof.Rows L2
section
variable {X : Cx}
/-- a rule that runs a statement from the environment: x.append(e) -/
theorem xs_app {x : Nat} {nm : Str} {e : Expr} {fe : ME} {p1 apos cpos pos : Pos} (hN : X.N[x]? = some nm) (hv : Vis X.env.scope nm) (he : XE X fe e)
    (hs : starEach [e] X.env = (false, eval e X.env) :: starEach [] X.env := by rfl)
    (hbase : attributeBase (.Name nm p1) "append" X.env (eval (.Name nm p1) X.env) = eval (.Name nm p1) X.env := by rfl)
    (hfew : ((backTo cpos (starEach [e] X.env)).all (fun x => !x.1) && (backToKw cpos (keywordEach [] X.env)).all (fun x => x.1.isSome)
      && decide ([e].length + ([] : List Keyword).length + (if ([] : List Keyword).isEmpty then 0 else 1) < 30)) = true := by rfl)
    (hline : (apos.endLine == cpos.line) = true := by rfl) (hplain : (backTo cpos (starEach [] X.env)).any (·.1) = false := by rfl)
    (hsw : swapsWith (.Call (.Attribute (.Name nm p1) "append" apos) [e] [] cpos) none pos.line X.env = pure false := by rfl)
    (hd : (nm == ("__debug__" : Str)) = false := by decide) (hcd : (nm == ("__classdict__" : Str)) = false := by decide) :
    XS X (sApp x fe) (.Expr (.Call (.Attribute (.Name nm p1) "append" apos) [e] [] cpos) pos) :=
  ps_weak (ps_expr (pe_bm PySem.F.plainAttrs_list PySem.F.slot_list_append PySem.F.type_list_append mt_append (pe_var hN hv hd hcd) (pa_cons he pa_nil hs) hbase hfew hline hs hplain) hsw) fun D σ H ⟨n0, ρ, O, cs, out, e0, hn, en, w, p⟩ => by
    obtain ⟨k, g2, e2⟩ := Option.bind_eq_some_iff.mp e0
    obtain ⟨⟨r, cs1⟩, g3, e3⟩ := Option.bind_eq_some_iff.mp e2
    clear e0 e2
    obtain ⟨u, q1, a, rfl, q2⟩ := en.slot x _ (cellOf_some g2)
    obtain ⟨c0, vs0, h0, h1, h2⟩ := w.cell k a q2
    refine ⟨_, q1, .inl ⟨rfl, _, .inl (.inl h1)⟩, ρ, O, cs, r, cs1, g3, en, w, fun v H1 c1 w1 rv => ?_⟩
    have rr := rv.deg
    dsimp only at e3
    split at e3
    · rename_i d c hd' hc'
      obtain ⟨hz, rfl⟩ := ite_some e3
      rw [hd'] at rr
      obtain ⟨c', vs, h5, h6, h7⟩ := w1.cell k a q2
      rw [hc'] at h5; cases h5
      obtain ⟨w3, c3⟩ := w1.write q2 (h7.append (.cons (show Rp X.K (DL.hd O H1) v d from rr) .nil))
      exact ⟨a, vs, v, rfl, rfl, h6, by rw [h7.length]; exact hz, p σ O _ .refl (c1.trans c3) (en.ch (c1.trans c3)) w3⟩
    · cases e3

/-! ### what is walked -/
abbrev MI := Rho → Cs → Option (List D × Cs)
def Walk (K : PySem.W.Frag) (O : List (Option Addr)) (H1 : Hp) (J : It) (ds : List D) : Prop := ∀ (i : Nat) (O2 : List (Option Addr)) (cs2 : Cs) (H2 : Hp), Sub O H1 O2 H2 → Wd K O2 cs2 H2 →
  (ds.length ≤ i → J.stop i H2) ∧ ∀ d, ds[i]? = some d → J.go i H2 ∧ ∀ x H3, J.yld i H2 x H3 → Ch O2 H2 H3 ∧ Wd K O2 cs2 H3 ∧ Rp K (hd O2 H3) x d
def tI (K : PySem.W.Frag) (f : MI) : TI := fun σ H R => ∃ ρ O cs ds cs', f ρ cs = some (ds, cs') ∧ EnvOk K O H ρ σ ∧ Wd K O cs H ∧ ∀ J H', Ch O H H' → Wd K O cs' H' → Walk K O H' J ds → R J H'
def XI (X : Cx) (f : MI) (tg iter : Expr) : Prop := PI X tg iter (tI X.K f)
theorem pi_weak {tg iter : Expr} {t t' : TI} (h : PI X tg iter t) (w : ∀ σ H R, t' σ H R → t σ H R) : PI X tg iter t' := ⟨fun pins s σ H R I q => h.run pins s σ H R I (w _ _ _ q)⟩
def loopM (g : MG) (b : MS) (n0 : Nat) : List D → Rho → Cs → Option Out
  | [], ρ, cs => some (.nx ρ cs)
  | d :: ds, ρ, cs => (g d ρ).bind fun ρ1 => (b n0 ρ1 cs).bind fun o => match o with
    | .nx ρ2 cs2 => loopM g b n0 ds ρ2 cs2
    | .ct ρ2 cs2 => loopM g b n0 ds ρ2 cs2
    | .bk ρ2 cs2 => some (.nx ρ2 cs2)
    | .rt r cs2 => some (.rt r cs2)
def sFor (f : MI) (g : MG) (b : MS) : MS := fun n0 ρ cs => (f ρ cs).bind fun p => loopM g b n0 p.1 ρ p.2
theorem loopM_ends {g : MG} {b : MS} {n0 : Nat} : ∀ {ds : List D} {ρ : Rho} {cs : Cs} {out : Out}, loopM g b n0 ds ρ cs = some out → (∃ ρ' cs', out = .nx ρ' cs') ∨ ∃ r cs', out = .rt r cs'
  | [], ρ, cs, out, h => by cases h; exact .inl ⟨_, _, rfl⟩
  | d :: ds, ρ, cs, out, h => by
    obtain ⟨ρ1, h1, h2⟩ := Option.bind_eq_some_iff.mp h
    obtain ⟨o, h3, h4⟩ := Option.bind_eq_some_iff.mp h2
    cases o with
    | nx ρ2 cs2 => exact loopM_ends h4
    | ct ρ2 cs2 => exact loopM_ends h4
    | bk ρ2 cs2 => cases h4; exact .inl ⟨_, _, rfl⟩
    | rt r cs2 => cases h4; exact .inr ⟨_, _, rfl⟩
theorem xs_for {tg iter : Expr} {body : List Stmt} {f : MI} {g : MG} {b : MS} {pos : Pos} {ws : List Nat} (hp : PassesOwn (model X.prog X.w) X.A X.env X.xe) (hc : X.calm = true) (hi : XI X f tg iter) (hg : XG X ws g tg) (hb : XSs X b body)
    (hs : ∀ x, foldedSetIterable iter X.env x = pure x := by intro _; rfl) : XS X (sFor f g b) (.For tg iter body [] pos) :=
  ps_weak (ps_for hp hc hi hg hb hs) fun D σ H ⟨n0, ρ, O, cs, out, e0, hn, en, w, p⟩ => by
    obtain ⟨⟨ds, cs1⟩, g1, g2⟩ := Option.bind_eq_some_iff.mp e0
    clear e0
    refine ⟨ρ, O, cs, ds, cs1, g1, en, w, fun J H1 c1 w1 wk => ?_⟩
    have p1 := p.step w w1 .refl c1
    refine ⟨fun i m σ' H' => m = ds.length - i ∧ i ≤ ds.length ∧ ∃ ρ' O' cs', loopM g b n0 (ds.drop i) ρ' cs' = some out ∧ EnvOk X.K O' H' ρ' σ' ∧ Wd X.K O' cs' H' ∧ Ext n0 O O' H1 ∧ Ch O H1 H', ⟨ds.length, by simp, Nat.zero_le _, ρ, O, cs1, g2, en.ch c1, w1, .refl, .refl⟩, ?_⟩
    rintro i m σ' H' ⟨rfl, hi', ρ', O', cs', e1, en', w', ex', ch'⟩
    have sb : Sub O H1 O' H' := Sub.of ex' ch'
    have hn' : n0 ≤ O'.length := ex'.len hn
    have p' : PostS X.K n0 O' H' out D := p1.step w1 w' ex' ch'
    by_cases hlt : i < ds.length
    · have hd' : ds[i]? = some ds[i] := List.getElem?_eq_getElem hlt
      rw [List.drop_eq_getElem_cons hlt] at e1
      obtain ⟨ρ1, h1, e2⟩ := Option.bind_eq_some_iff.mp e1
      obtain ⟨o, h3, e3⟩ := Option.bind_eq_some_iff.mp e2
      clear e1 e2
      obtain ⟨go, yl⟩ := (wk i O' cs' H' sb w').2 _ hd'
      refine .inr ⟨go, fun σ2 H2 => i + 1 ≤ ds.length ∧ ∃ ρ2 O2 cs2, loopM g b n0 (ds.drop (i + 1)) ρ2 cs2 = some out ∧ EnvOk X.K O2 H2 ρ2 σ2 ∧ Wd X.K O2 cs2 H2 ∧ Ext n0 O O2 H1 ∧ Ch O H1 H2, fun σ2 H2 h2 => ⟨ds.length - (i + 1), by omega, rfl, h2⟩, fun x H3 hy => ?_⟩
      obtain ⟨c3, w3, r3⟩ := yl x H3 hy
      refine ⟨ρ', O', cs', ds[i], ρ1, h1, r3, en'.ch c3, w3, fun σ4 en4 _ => ?_⟩
      refine ⟨n0, ρ1, O', cs', o, h3, hn', en4, w3, ?_⟩
      have again : ∀ ρ2 cs2, loopM g b n0 (ds.drop (i + 1)) ρ2 cs2 = some out → ∀ σ5 O5 H5, Ext n0 O' O5 H3 → Ch O' H3 H5 → EnvOk X.K O5 H5 ρ2 σ5 → Wd X.K O5 cs2 H5 →
          i + 1 ≤ ds.length ∧ ∃ ρ2 O2 cs2, loopM g b n0 (ds.drop (i + 1)) ρ2 cs2 = some out ∧ EnvOk X.K O2 H5 ρ2 σ5 ∧ Wd X.K O2 cs2 H5 ∧ Ext n0 O O2 H1 ∧ Ch O H1 H5 := fun ρ2 cs2 hl σ5 O5 H5 e5 c5 en5 w5 => by
        have ex3 : Ext n0 O O' H1 := ex'
        have ch3 : Ch O H1 H3 := ch'.ext ex' c3
        exact ⟨hlt, ρ2, O5, cs2, hl, en5, w5, ex3.trans w1 w3 ch3 e5, ch3.ext ex3 c5⟩
      have p3 : PostS X.K n0 O' H3 out D := p'.step w' w3 .refl c3
      cases o with
      | nx ρ2 cs2 => exact again ρ2 cs2 e3
      | ct ρ2 cs2 => exact again ρ2 cs2 e3
      | bk ρ2 cs2 => cases e3; exact p3
      | rt r cs2 => cases e3; exact p3
    · have ei : i = ds.length := by omega
      subst ei
      rw [List.drop_length] at e1
      cases e1
      exact .inl ⟨(wk ds.length O' cs' H' sb w').1 (Nat.le_refl _), p' _ O' H' .refl .refl en' w'⟩
/-! while -/
def wh (c : MT) (b : MS) (n0 : Nat) : Nat → Rho → Cs → Option Out
  | 0, _, _ => none
  | n + 1, ρ, cs => (c ρ cs).bind fun p => if p.1 = true then (b n0 ρ p.2).bind fun o => match o with
      | .nx ρ2 cs2 => wh c b n0 n ρ2 cs2
      | .ct ρ2 cs2 => wh c b n0 n ρ2 cs2
      | .bk ρ2 cs2 => some (.nx ρ2 cs2)
      | .rt r cs2 => some (.rt r cs2)
    else some (.nx ρ p.2)
open Classical in
noncomputable def sWh (c : MT) (b : MS) : MS := fun n0 ρ cs => if h : ∃ n, (wh c b n0 n ρ cs).isSome = true then wh c b n0 (Classical.choose h) ρ cs else none
theorem sWh_some {c : MT} {b : MS} {n0 : Nat} {ρ : Rho} {cs : Cs} {out : Out} (h : sWh c b n0 ρ cs = some out) : ∃ n, wh c b n0 n ρ cs = some out := by
  unfold sWh at h
  split at h
  · exact ⟨_, h⟩
  · cases h
theorem wh_mono {c : MT} {b : MS} {n0 : Nat} : ∀ {n : Nat} {ρ : Rho} {cs : Cs} {out : Out}, wh c b n0 n ρ cs = some out → ∀ k, wh c b n0 (n + k) ρ cs = some out
  | 0, _, _, _, h, _ => by cases h
  | n + 1, ρ, cs, out, h, k => by
    obtain ⟨⟨t, cs1⟩, h1, h2⟩ := Option.bind_eq_some_iff.mp h
    rw [show n + 1 + k = (n + k) + 1 by omega]
    refine Option.bind_eq_some_iff.mpr ⟨_, h1, ?_⟩
    cases t with
    | false => exact h2
    | true =>
      obtain ⟨o, h3, h4⟩ := Option.bind_eq_some_iff.mp h2
      refine Option.bind_eq_some_iff.mpr ⟨o, h3, ?_⟩
      cases o with
      | nx ρ2 cs2 => exact wh_mono h4 k
      | ct ρ2 cs2 => exact wh_mono h4 k
      | bk ρ2 cs2 => exact h4
      | rt r cs2 => exact h4
theorem sWh_of {c : MT} {b : MS} {n0 n : Nat} {ρ : Rho} {cs : Cs} {out : Out} (h : wh c b n0 n ρ cs = some out) : sWh c b n0 ρ cs = some out := by
  have hx : ∃ n, (wh c b n0 n ρ cs).isSome = true := ⟨n, by rw [h]; rfl⟩
  unfold sWh
  rw [dif_pos hx]
  obtain ⟨o, ho⟩ := Option.isSome_iff_exists.mp (Classical.choose_spec hx)
  rw [ho]
  have a := wh_mono h (Classical.choose hx)
  have b' := wh_mono ho n
  rw [Nat.add_comm] at b'
  rw [a] at b'
  exact b'.symm
theorem xs_while {c : Expr} {body : List Stmt} {t : MT} {b : MS} {pos : Pos} (hp : PassesOwn (model X.prog X.w) X.A X.env X.xe) (hc : XT X t c) (hb : XSs X b body) : XS X (sWh t b) (.While c body [] pos) :=
  ps_weak (ps_while hp hc hb) fun D σ H ⟨n0, ρ, O, cs, out, e0, hn, en, w, p⟩ => by
    obtain ⟨n, e1⟩ := sWh_some e0
    clear e0
    refine ⟨fun m σ' H' => ∃ ρ' O' cs', wh t b n0 m ρ' cs' = some out ∧ EnvOk X.K O' H' ρ' σ' ∧ Wd X.K O' cs' H' ∧ Ext n0 O O' H ∧ Ch O H H', ⟨n, ρ, O, cs, e1, en, w, .refl, .refl⟩, ?_⟩
    rintro m σ' H' ⟨ρ', O', cs', e2, en', w', ex', ch'⟩
    cases m with
    | zero => cases e2
    | succ m =>
      obtain ⟨⟨k, cs1⟩, h1, e3⟩ := Option.bind_eq_some_iff.mp e2
      clear e2
      have p' : PostS X.K n0 O' H' out D := p.step w w' ex' ch'
      refine ⟨ρ', O', cs', k, cs1, h1, en', w', fun H1 c1 w1 => ?_⟩
      have p1 : PostS X.K n0 O' H1 out D := p'.step w' w1 .refl c1
      cases k with
      | false =>
        cases e3
        exact p1 σ' O' H1 .refl .refl (en'.ch c1) w1
      | true =>
        obtain ⟨o, h3, e4⟩ := Option.bind_eq_some_iff.mp e3
        clear e3
        refine ⟨fun σ2 H2 => ∃ ρ2 O2 cs2, wh t b n0 m ρ2 cs2 = some out ∧ EnvOk X.K O2 H2 ρ2 σ2 ∧ Wd X.K O2 cs2 H2 ∧ Ext n0 O O2 H ∧ Ch O H H2, fun σ2 H2 h2 => ⟨m, Nat.lt_succ_self m, h2⟩, ?_⟩
        refine ⟨n0, ρ', O', cs1, o, h3, ex'.len hn, en'.ch c1, w1, ?_⟩
        have ch1 : Ch O H H1 := ch'.ext ex' c1
        have again : ∀ ρ2 cs2, wh t b n0 m ρ2 cs2 = some out → ∀ σ5 O5 H5, Ext n0 O' O5 H1 → Ch O' H1 H5 → EnvOk X.K O5 H5 ρ2 σ5 → Wd X.K O5 cs2 H5 →
            ∃ ρ2 O2 cs2, wh t b n0 m ρ2 cs2 = some out ∧ EnvOk X.K O2 H5 ρ2 σ5 ∧ Wd X.K O2 cs2 H5 ∧ Ext n0 O O2 H ∧ Ch O H H5 := fun ρ2 cs2 hl σ5 O5 H5 e5 c5 en5 w5 =>
          ⟨ρ2, O5, cs2, hl, en5, w5, ex'.trans w w1 ch1 e5, ch1.ext ex' c5⟩
        cases o with
        | nx ρ2 cs2 => exact again ρ2 cs2 e4
        | ct ρ2 cs2 => exact again ρ2 cs2 e4
        | bk ρ2 cs2 => cases e4; exact p1
        | rt r cs2 => cases e4; exact p1
end
end DL
namespace DL
open PySem PySem.Spec PyProof.Rows L2
section
variable {X : Cx}
/-! sources -/
def itemsOf : D → Option (List D)
  | .list ds => some ds
  | .tuple ds => some ds
  | .str x => some (x.cps.toList.map fun c => .str ⟨#[c]⟩)
  | .dict kvs => if (kvs.all fun p => match p.1 with | .str x => decide (x.length ≤ sizeLine) | _ => true) = true then some (kvs.map (·.1)) else none
  | _ => none
def iSeq (f : ME) : MI := fun ρ cs => (f ρ cs).bind fun p => match deg p.1 with
  | .dat d => (itemsOf d).map fun ds => (ds, p.2)
  | _ => none
theorem iSeq_some {f : ME} {ρ : Rho} {cs cs' : Cs} {ds : List D} (h : iSeq f ρ cs = some (ds, cs')) : ∃ r d, f ρ cs = some (r, cs') ∧ deg r = .dat d ∧ itemsOf d = some ds := by
  obtain ⟨⟨r, cs1⟩, h1, h2⟩ := Option.bind_eq_some_iff.mp h
  dsimp only at h2
  split at h2
  · rename_i d hd'
    obtain ⟨x, h3, h4⟩ := Option.map_eq_some_iff.mp h2
    cases h4
    exact ⟨r, d, h1, hd', h3⟩
  · cases h2
theorem walk_list {K : PySem.W.Frag} {O : List (Option Addr)} {H : Hp} {a : Addr} {ds : List D} (r : Rp K (hd O H) (.ref a) (.list ds)) : Walk K O H (Itl K a) ds := by
  intro i O2 cs2 H2 sb w2
  cases r with
  | lst q r =>
    have q2 : SqL K H2 a _ := ((q.mono sb).mono hd_le).sq
    have r2 := r.mono sb
    refine ⟨fun hi => ⟨_, q2, by rw [r2.length]; exact hi⟩, fun d hd' => ?_⟩
    obtain ⟨v, h1, h2⟩ := r2.get hd'
    refine ⟨⟨_, v, q2, h1⟩, fun x H3 hy => ?_⟩
    obtain ⟨rfl, fx⟩ := hy
    have := fx _ q2
    rw [h1] at this; cases this
    exact ⟨.refl, w2, h2⟩
theorem walk_tup {K : PySem.W.Frag} {O : List (Option Addr)} {H : Hp} {a : Addr} {ds : List D} (r : Rp K (hd O H) (.ref a) (.tuple ds)) : Walk K O H (Itt K a) ds := by
  intro i O2 cs2 H2 sb w2
  cases r with
  | tup q r =>
    have q2 : SqT K H2 a _ := .inl (rd_mono hd_le (rd_mono sb q))
    have r2 := r.mono sb
    refine ⟨fun hi => ⟨_, q2, by rw [r2.length]; exact hi⟩, fun d hd' => ?_⟩
    obtain ⟨v, h1, h2⟩ := r2.get hd'
    refine ⟨⟨_, v, q2, h1⟩, fun x H3 hy => ?_⟩
    obtain ⟨rfl, fx⟩ := hy
    have := fx _ q2
    rw [h1] at this; cases this
    exact ⟨.refl, w2, h2⟩
theorem walk_str {K : PySem.W.Frag} {O : List (Option Addr)} {H : Hp} {x : Str} : Walk K O H (Its x) (x.cps.toList.map fun c => .str ⟨#[c]⟩) := by
  intro i O2 cs2 H2 sb w2
  refine ⟨fun hi => (show x.cps.size ≤ i by simpa using hi), fun d hd' => ?_⟩
  rw [List.getElem?_map] at hd'
  obtain ⟨c, h1, h2⟩ := Option.map_eq_some_iff.mp hd'
  have h1' : x.cps[i]? = some c := by simpa using h1
  refine ⟨(Array.getElem?_eq_some_iff.mp h1').1, fun v H3 hy => ?_⟩
  obtain ⟨rfl, c', hc', rfl⟩ := hy
  rw [h1'] at hc'; cases hc'
  subst h2
  exact ⟨.refl, w2, .str _ (one_sign c)⟩
theorem kV_rp {K : PySem.W.Frag} {H : Hp} {k : Key} (h : ∀ x, k = .inr x → x.length ≤ sizeLine) : Rp K H (kV k) (kD k) := by
  cases k with
  | inl i => exact .int i
  | inr x => exact .str x (h x rfl)
theorem walk_keys {K : PySem.W.Frag} {O : List (Option Addr)} {H : Hp} {a : Addr} {o : Obj} {kvs : List (Key × V)} {ds : List (D × D)} (q : hd O H a = some (.frz o (.dK kvs))) (e : kvs.map (fun p => kD p.1) = ds.map (·.1)) (hz : ∀ (i : Nat) x v, kvs[i]? = some (.inr x, v) → x.length ≤ sizeLine) : Walk K O H (Itk a o kvs) (ds.map (·.1)) := by
  intro i O2 cs2 H2 sb w2
  have q2 := hd_le _ _ (sb _ _ q)
  rw [← e]
  refine ⟨fun hi => ⟨q2, by simpa using hi⟩, fun d hd' => ?_⟩
  rw [List.getElem?_map] at hd'
  obtain ⟨⟨k, v⟩, h1, h2⟩ := Option.map_eq_some_iff.mp hd'
  refine ⟨⟨q2, (List.getElem?_eq_some_iff.mp h1).1⟩, fun x H3 hy => ?_⟩
  obtain ⟨rfl, k', v', h3, rfl⟩ := hy
  rw [h1] at h3
  cases h3
  subst h2
  exact ⟨.refl, w2, kV_rp fun x hx => by subst hx; exact hz i x v h1⟩
theorem xi_seq {tg e : Expr} {f : ME} (he : XE X f e) : XI X (iSeq f) tg e := ⟨fun pins s σ H R I ⟨ρ, O, cs, ds, cs', e0, en, w, p⟩ => by
  obtain ⟨r, d, h1, h2, h3⟩ := iSeq_some e0
  cases d with
  | list xs =>
    cases h3
    refine (pi_list he).run pins s σ H R I ⟨ρ, O, cs, r, cs', h1, en, w, fun v H' c w' rv => ?_⟩
    have rr := rv.deg
    rw [h2] at rr
    have rr' : Rp X.K (DL.hd O H') v (.list ds) := rr
    have hw := rr'
    cases rr' with
    | lst q rp => exact ⟨_, rfl, ⟨_, (q.mono hd_le).sq⟩, p _ H' c w' (walk_list hw)⟩
  | tuple xs =>
    cases h3
    refine (pi_tup he).run pins s σ H R I ⟨ρ, O, cs, r, cs', h1, en, w, fun v H' c w' rv => ?_⟩
    have rr := rv.deg
    rw [h2] at rr
    have rr' : Rp X.K (DL.hd O H') v (.tuple ds) := rr
    have hw := rr'
    cases rr' with
    | tup q rp => exact ⟨_, rfl, ⟨_, .inl (rd_mono hd_le q)⟩, p _ H' c w' (walk_tup hw)⟩
  | str x =>
    cases h3
    refine (pi_str he).run pins s σ H R I ⟨ρ, O, cs, r, cs', h1, en, w, fun v H' c w' rv => ?_⟩
    have rr := rv.deg
    rw [h2] at rr
    have rr' : Rp X.K (DL.hd O H') v (.str x) := rr
    cases rr' with
    | str _ q => exact ⟨x, rfl, p _ H' c w' walk_str⟩
  | dict kvs =>
    obtain ⟨h4, h3⟩ := ite_some h3
    subst h3
    refine (pi_keys he).run pins s σ H R I ⟨ρ, O, cs, r, cs', h1, en, w, fun v H' c w' rv => ?_⟩
    have rr := rv.deg
    rw [h2] at rr
    have rr' : Rp X.K (DL.hd O H') v (.dict kvs) := rr
    cases rr' with
    | dct q e b =>
      refine ⟨_, _, rfl, .inl ⟨_, hd_le _ _ q, p _ H' c w' (walk_keys q e fun i x v' hi => ?_)⟩⟩
      have h5 : kD (.inr x) ∈ kvs.map (·.1) := by
        rw [← e]
        exact List.mem_map.mpr ⟨_, List.mem_of_getElem? hi, rfl⟩
      obtain ⟨pr, h6, h7⟩ := List.mem_map.mp h5
      have h8 := List.all_eq_true.mp h4 pr h6
      rw [h7] at h8
      exact of_decide_eq_true h8
  | _ => cases h3⟩
/-- range -/
def rngD (lo : Int) (n : Nat) : List D := (List.range n).map fun i : Nat => .int (lo + (i : Int))
theorem walk_rng {K : PySem.W.Frag} {O : List (Option Addr)} {H : Hp} {lo : Int} {n : Nat} : Walk K O H (Itr lo n) (rngD lo n) := by
  intro i O2 cs2 H2 sb w2
  refine ⟨fun hi => (show n ≤ i by simpa [rngD] using hi), fun d hd' => ?_⟩
  unfold rngD at hd'
  rw [List.getElem?_map] at hd'
  obtain ⟨c, h1, h2⟩ := Option.map_eq_some_iff.mp hd'
  have hi : i < n := by
    have := (List.getElem?_eq_some_iff.mp h1).1
    simpa using this
  rw [List.getElem?_range hi] at h1
  cases h1
  subst h2
  refine ⟨hi, fun v H3 hy => ?_⟩
  obtain ⟨rfl, rfl⟩ := hy
  exact ⟨.refl, w2, .int _⟩
def sm62 (i : Int) : Prop := -(2 ^ 62) ≤ i ∧ i < 2 ^ 62
instance (i : Int) : Decidable (sm62 i) := inferInstanceAs (Decidable (_ ∧ _))
def intsOf : List Rv → Option (List Int)
  | [] => some []
  | r :: rs => (intOf r).bind fun i => (intsOf rs).map fun is => i :: is
theorem intsOf_v {K : PySem.W.Frag} {O : List (Option Addr)} {H : Hp} : ∀ {rs : List Rv} {vs : List V} {is : List Int}, ArRs K O H rs vs → intsOf rs = some is → vs = is.map V.int
  | [], [], is, _, e => by cases e; rfl
  | r :: rs, v :: vs, is, h, e => by
    obtain ⟨i, h1, h2⟩ := Option.bind_eq_some_iff.mp e
    obtain ⟨js, h3, h4⟩ := Option.map_eq_some_iff.mp h2
    subst h4
    obtain rfl : r = di i := intOf_some h1
    cases (show Rp K (hd O H) v (.int i) from h.1)
    rw [intsOf_v h.2 h3]; rfl
  | [], _ :: _, _, h, _ => h.elim
  | _ :: _, [], _, h, _ => h.elim
def iRg1 (fa : MA) : MI := fun ρ cs => (fa ρ cs).bind fun p => match intsOf p.1 with
  | some [j] => if sm62 j then some (rngD 0 j.toNat, p.2) else none
  | _ => none
def iRg2 (fa : MA) : MI := fun ρ cs => (fa ρ cs).bind fun p => match intsOf p.1 with
  | some [i, j] => if sm62 i ∧ sm62 j then some (rngD i (j - i).toNat, p.2) else none
  | _ => none
theorem xi_range1 {tg a : Expr} {fa : MA} {p pos : Pos} (hg : Gl X "range") (hm : X.mg "range" = none) (ha : XA X fa [a]) (hs : starEach [a] X.env = [(false, eval a X.env)] := by rfl) : XI X (iRg1 fa) tg (.Call (.Name "range" p) [a] [] pos) :=
  pi_weak (pi_range1 hg hm ha hs) fun σ H R ⟨ρ, O, cs, ds, cs', e0, en, w, p⟩ => by
    obtain ⟨⟨rs, cs1⟩, h1, h2⟩ := Option.bind_eq_some_iff.mp e0
    refine ⟨ρ, O, cs, rs, cs1, h1, en, w, fun vs H' c w' ra => ?_⟩
    dsimp only at h2
    split at h2
    · rename_i j hj
      obtain ⟨hz, e⟩ := ite_some h2
      cases e
      rw [intsOf_v ra hj]
      exact ⟨j, rfl, hz.1, hz.2, p _ H' c w' walk_rng⟩
    · cases h2
theorem xi_range2 {tg a b : Expr} {fa : MA} {p pos : Pos} (hg : Gl X "range") (hm : X.mg "range" = none) (ha : XA X fa [a, b]) (hs : starEach [a, b] X.env = [(false, eval a X.env), (false, eval b X.env)] := by rfl) (hs2 : starEach [b] X.env = [(false, eval b X.env)] := by rfl) :
    XI X (iRg2 fa) tg (.Call (.Name "range" p) [a, b] [] pos) :=
  pi_weak (pi_range2 hg hm ha hs hs2) fun σ H R ⟨ρ, O, cs, ds, cs', e0, en, w, p⟩ => by
    obtain ⟨⟨rs, cs1⟩, h1, h2⟩ := Option.bind_eq_some_iff.mp e0
    refine ⟨ρ, O, cs, rs, cs1, h1, en, w, fun vs H' c w' ra => ?_⟩
    dsimp only at h2
    split at h2
    · rename_i i j hj
      obtain ⟨hz, e⟩ := ite_some h2
      cases e
      rw [intsOf_v ra hj]
      exact ⟨i, j, rfl, ⟨hz.1.1, hz.1.2, hz.2.1, hz.2.2⟩, p _ H' c w' walk_rng⟩
    · cases h2
/-- enumerate of a list -/
def enumD : Nat → List D → List D
  | _, [] => []
  | i, d :: ds => .tuple [.int (i : Int), d] :: enumD (i + 1) ds
theorem enumD_len : ∀ (ds : List D) (k : Nat), (enumD k ds).length = ds.length
  | [], _ => rfl
  | d :: ds, k => by rw [enumD, List.length_cons, List.length_cons, enumD_len ds]
theorem enumD_get : ∀ (ds : List D) (k i : Nat) (d : D), (enumD k ds)[i]? = some d → ∃ e, ds[i]? = some e ∧ d = .tuple [.int ((k + i : Nat) : Int), e]
  | [], _, _, _, h => by simp [enumD] at h
  | e :: ds, k, 0, d, h => by
    simp [enumD] at h
    exact ⟨e, rfl, h.symm⟩
  | e :: ds, k, i + 1, d, h => by
    have h' : (enumD (k + 1) ds)[i]? = some d := by simpa [enumD] using h
    obtain ⟨e', h1, h2⟩ := enumD_get ds (k + 1) i d h'
    exact ⟨e', by simpa using h1, by rw [h2, show k + 1 + i = k + (i + 1) by omega]⟩
theorem two_rp {K : PySem.W.Frag} {O : List (Option Addr)} {cs : Cs} {H : Hp} {T : Addr} {x y : V} {d e : D} (w : Wd K O cs H) (hT : H T = none) (hx : Rp K (hd O H) x d) (hy : Rp K (hd O H) y e) :
    Ch O H (upd H T (.tup [x, y])) ∧ Wd K O cs (upd H T (.tup [x, y])) ∧ Rp K (hd O (upd H T (.tup [x, y]))) (.ref T) (.tuple [d, e]) :=
  ⟨ch_new hT, w.new hT, .tup (.inl (hd_of (w.fresh hT) upd_same)) (.cons (hx.mono (ch_new hT).data) (.cons (hy.mono (ch_new hT).data) .nil))⟩
theorem walk_enum {K : PySem.W.Frag} {O : List (Option Addr)} {H : Hp} {a : Addr} {ds : List D} (r : Rp K (hd O H) (.ref a) (.list ds)) : Walk K O H (Ite K a) (enumD 0 ds) := by
  intro i O2 cs2 H2 sb w2
  cases r with
  | lst q r =>
    have q2 : SqL K H2 a _ := ((q.mono sb).mono hd_le).sq
    have r2 := r.mono sb
    refine ⟨fun hi => ⟨_, q2, by rw [r2.length]; rw [enumD_len] at hi; exact hi⟩, fun d hd' => ?_⟩
    obtain ⟨e, h0, rfl⟩ := enumD_get ds 0 i d hd'
    obtain ⟨v, h1, h2⟩ := r2.get h0
    refine ⟨⟨_, v, q2, h1⟩, fun x H3 hy => ?_⟩
    obtain ⟨T, y, rfl, hT, rfl, fx⟩ := hy
    have := fx _ q2
    rw [h1] at this; cases this
    rw [Nat.zero_add]
    exact two_rp w2 hT (.int _) h2
def lstOf (r : Rv) : Option (List D) := match deg r with
  | .dat (.list ds) => some ds
  | _ => none
theorem lstOf_some {r : Rv} {ds : List D} (h : lstOf r = some ds) : deg r = .dat (.list ds) := by
  unfold lstOf at h
  split at h
  · rename_i xs hx; cases h; exact hx
  · cases h
def iEn (fa : MA) : MI := fun ρ cs => (fa ρ cs).bind fun p => match p.1 with
  | [r] => (lstOf r).map fun ds => (enumD 0 ds, p.2)
  | _ => none
theorem deg_ar {K : PySem.W.Frag} {O : List (Option Addr)} {H : Hp} {r : Rv} {v : V} (h : ArR K O r v H) : deg r = r := by
  cases r with
  | fr c => exact h.elim
  | _ => rfl
theorem xi_enum {e : Expr} {fa : MA} {p pos tpos : Pos} {elts : List Expr} {kk : Nat} (hg : Gl X "enumerate") (hm : X.mg "enumerate" = none) (ha : XA X fa [e]) (hs : starEach [e] X.env = [(false, eval e X.env)] := by rfl) :
    XI X (iEn fa) (.Tuple elts kk tpos) (.Call (.Name "enumerate" p) [e] [] pos) :=
  pi_weak (pi_enum hg hm ha hs) fun σ H R ⟨ρ, O, cs, ds, cs', e0, en, w, p⟩ => by
    obtain ⟨⟨rs, cs1⟩, h1, h2⟩ := Option.bind_eq_some_iff.mp e0
    refine ⟨ρ, O, cs, rs, cs1, h1, en, w, fun vs H' c w' ra => ?_⟩
    dsimp only at h2
    split at h2
    · rename_i r
      obtain ⟨xs, h3, h4⟩ := Option.map_eq_some_iff.mp h2
      cases h4
      match vs, ra with
      | [v], ra =>
        have rr := ra.1
        rw [← deg_ar ra.1, lstOf_some h3] at rr
        have rr' : Rp X.K (DL.hd O H') v (.list xs) := rr
        have hw := rr'
        cases rr' with
        | lst q rp => exact ⟨_, _, rfl, (q.mono hd_le).sq, p _ H' c w' (walk_enum hw)⟩
      | [], ra => exact ra.elim
      | _ :: _ :: _, ra => exact ra.2.elim
    · cases h2
/-- zip of two lists, of two tuples -/
def zipD : List D → List D → List D
  | x :: xs, y :: ys => .tuple [x, y] :: zipD xs ys
  | _, _ => []
theorem zipD_len : ∀ (xs ys : List D), (zipD xs ys).length = min xs.length ys.length
  | [], ys => by simp [zipD]
  | x :: xs, [] => by simp [zipD]
  | x :: xs, y :: ys => by rw [zipD, List.length_cons, zipD_len xs ys, List.length_cons, List.length_cons]; omega
theorem zipD_get : ∀ (xs ys : List D) (i : Nat) (d : D), (zipD xs ys)[i]? = some d → ∃ x y, xs[i]? = some x ∧ ys[i]? = some y ∧ d = .tuple [x, y]
  | [], ys, _, _, h => by simp [zipD] at h
  | x :: xs, [], _, _, h => by simp [zipD] at h
  | x :: xs, y :: ys, 0, d, h => by
    simp [zipD] at h
    exact ⟨x, y, rfl, rfl, h.symm⟩
  | x :: xs, y :: ys, i + 1, d, h => by
    have h' : (zipD xs ys)[i]? = some d := by simpa [zipD] using h
    obtain ⟨a, b, h1, h2, h3⟩ := zipD_get xs ys i d h'
    exact ⟨a, b, by simpa using h1, by simpa using h2, h3⟩
theorem walk_zip {K : PySem.W.Frag} {O : List (Option Addr)} {H : Hp} {a b : Addr} {xs ys : List D} (r : Rp K (hd O H) (.ref a) (.list xs)) (r' : Rp K (hd O H) (.ref b) (.list ys)) : Walk K O H (Itz K a b) (zipD xs ys) := by
  intro i O2 cs2 H2 sb w2
  cases r with
  | lst q r =>
    cases r' with
    | lst q' r' =>
      have q2 : SqL K H2 a _ := ((q.mono sb).mono hd_le).sq
      have q3 : SqL K H2 b _ := ((q'.mono sb).mono hd_le).sq
      have r2 := r.mono sb
      have r3 := r'.mono sb
      refine ⟨fun hi => ⟨_, _, q2, q3, ?_⟩, fun d hd' => ?_⟩
      · rw [zipD_len] at hi
        rw [r2.length, r3.length]; omega
      · obtain ⟨x, y, hx, hy, rfl⟩ := zipD_get xs ys i d hd'
        obtain ⟨v, h1, h2⟩ := r2.get hx
        obtain ⟨u, h3, h4⟩ := r3.get hy
        refine ⟨⟨_, _, v, u, q2, q3, h1, h3⟩, fun z H3 hz => ?_⟩
        obtain ⟨T, v', u', rfl, hT, rfl, fx, fy⟩ := hz
        have e1 := fx _ q2
        have e2 := fy _ q3
        rw [h1] at e1; cases e1
        rw [h3] at e2; cases e2
        exact two_rp w2 hT h2 h4
theorem walk_zipT {K : PySem.W.Frag} {O : List (Option Addr)} {H : Hp} {a b : Addr} {xs ys : List D} (r : Rp K (hd O H) (.ref a) (.tuple xs)) (r' : Rp K (hd O H) (.ref b) (.tuple ys)) : Walk K O H (RZ.ItzT K a b) (zipD xs ys) := by
  intro i O2 cs2 H2 sb w2
  cases r with
  | tup q r =>
    cases r' with
    | tup q' r' =>
      have q2 : SqT K H2 a _ := .inl (rd_mono hd_le (rd_mono sb q))
      have q3 : SqT K H2 b _ := .inl (rd_mono hd_le (rd_mono sb q'))
      have r2 := r.mono sb
      have r3 := r'.mono sb
      refine ⟨fun hi => ⟨_, _, q2, q3, ?_⟩, fun d hd' => ?_⟩
      · rw [zipD_len] at hi
        rw [r2.length, r3.length]; omega
      · obtain ⟨x, y, hx, hy, rfl⟩ := zipD_get xs ys i d hd'
        obtain ⟨v, h1, h2⟩ := r2.get hx
        obtain ⟨u, h3, h4⟩ := r3.get hy
        refine ⟨⟨_, _, v, u, q2, q3, h1, h3⟩, fun z H3 hz => ?_⟩
        obtain ⟨T, v', u', rfl, hT, rfl, fx, fy⟩ := hz
        have e1 := fx _ q2
        have e2 := fy _ q3
        rw [h1] at e1; cases e1
        rw [h3] at e2; cases e2
        exact two_rp w2 hT h2 h4
def iZp (fa : MA) : MI := fun ρ cs => (fa ρ cs).bind fun p => match p.1 with
  | [.dat (.list xs), .dat (.list ys)] => some (zipD xs ys, p.2)
  | [.dat (.tuple xs), .dat (.tuple ys)] => some (zipD xs ys, p.2)
  | _ => none
theorem xi_zip {e e2 : Expr} {fa : MA} {p pos tpos : Pos} {elts : List Expr} {kk : Nat} (hg : Gl X "zip") (hm : X.mg "zip" = none) (ha : XA X fa [e, e2])
    (hs : starEach [e, e2] X.env = (false, eval e X.env) :: starEach [e2] X.env := by rfl) (hpl : (backTo pos (starEach [e2] X.env)).any (·.1) = false := by rfl) :
    XI X (iZp fa) (.Tuple elts kk tpos) (.Call (.Name "zip" p) [e, e2] [] pos) :=
  pi_weak (RZ.pi_zipA hg hm ha hs hpl) fun σ H R ⟨ρ, O, cs, ds, cs', e0, en, w, p⟩ => by
    obtain ⟨⟨rs, cs1⟩, h1, h2⟩ := Option.bind_eq_some_iff.mp e0
    refine ⟨ρ, O, cs, rs, cs1, h1, en, w, fun vs H' c w' ra => ?_⟩
    dsimp only at h2
    split at h2
    · rename_i _ xs ys
      cases h2
      match vs, ra with
      | [v, u], ra =>
        have r1 : Rp X.K (DL.hd O H') v (.list xs) := ra.1
        have r2 : Rp X.K (DL.hd O H') u (.list ys) := ra.2.1
        have k1 := r1
        have k2 := r2
        cases r1 with
        | lst q rp =>
          cases r2 with
          | lst q' rp' => exact ⟨_, _, _, _, rfl, .inl ⟨(q.mono hd_le).sq, (q'.mono hd_le).sq, p _ H' c w' (walk_zip k1 k2)⟩⟩
      | [], ra => exact ra.elim
      | [_], ra => exact ra.2.elim
      | _ :: _ :: _ :: _, ra => exact ra.2.2.elim
    · rename_i _ xs ys
      cases h2
      match vs, ra with
      | [v, u], ra =>
        have r1 : Rp X.K (DL.hd O H') v (.tuple xs) := ra.1
        have r2 : Rp X.K (DL.hd O H') u (.tuple ys) := ra.2.1
        have k1 := r1
        have k2 := r2
        cases r1 with
        | tup q rp =>
          cases r2 with
          | tup q' rp' => exact ⟨_, _, _, _, rfl, .inr ⟨.inl (rd_mono hd_le q), .inl (rd_mono hd_le q'), p _ H' c w' (walk_zipT k1 k2)⟩⟩
      | [], ra => exact ra.elim
      | [_], ra => exact ra.2.elim
      | _ :: _ :: _ :: _, ra => exact ra.2.2.elim
    · cases h2
end
end DL
namespace DL
open PySem PySem.Spec PyProof.Rows L2
section
variable {X : Cx}
/-! comprehensions -/
def wipeR (ρ : Rho) : List Nat → Rho
  | [] => ρ
  | v :: vs => (wipeR ρ vs).set v none
theorem EnvOk.wipe {K : PySem.W.Frag} {O : List (Option Addr)} {H : Hp} {ρ : Rho} {σ : L2.St} (e : EnvOk K O H ρ σ) : ∀ vs : List Nat, EnvOk K O H (wipeR ρ vs) (L2.wipe σ vs)
  | [] => e
  | v :: vs => by
    have ih := EnvOk.wipe e vs
    refine ⟨by simp [wipeR, L2.wipe, ih.len], fun j r hj => ?_⟩
    unfold wipeR at hj
    by_cases q : v = j
    · subst q
      have hv : v < (wipeR ρ vs).length := by
        have := (List.getElem?_eq_some_iff.mp hj).1
        simpa using this
      rw [List.getElem?_set_self hv] at hj
      cases hj
    · rw [List.getElem?_set_ne q] at hj
      obtain ⟨w, h1, h2⟩ := ih.slot j r hj
      exact ⟨w, by unfold L2.wipe; rw [List.getElem?_set_ne q]; exact h1, h2⟩
def XTs (X : Cx) (f : MT) (es : List Expr) : Prop := PTs X es (tXT X.K f)
theorem pts_weak {es : List Expr} {t t' : TT} (h : PTs X es t) (w : ∀ σ H Q, t' σ H Q → t σ H Q) : PTs X es t' := ⟨fun pins s σ H Q I q => h.run pins s σ H Q I (w _ _ _ q)⟩
def mYes : MT := fun _ cs => some (true, cs)
theorem xts_nil : XTs X mYes [] := pts_weak pts_nil fun σ H Q ⟨ρ, O, cs, b, cs', e, en, w, p⟩ => by
  cases e
  exact p H .refl w
theorem xts_one {c : Expr} {t : MT} (h : XT X t c) : XTs X t [c] := pts_one h
def compM (g : MG) (t : MT) (f : ME) : List D → Rho → Cs → List D → Option (List D × Cs)
  | [], _, cs, acc => some (acc, cs)
  | d :: ds, ρ, cs, acc => (g d ρ).bind fun ρ1 => (t ρ1 (cs ++ [some acc])).bind fun p => if p.1 = true then (f ρ1 p.2).bind fun q => match deg q.1, q.2[cs.length]? with
      | .dat e, some (some c) => if c.length < sizeLine then compM g t f ds ρ (q.2.take cs.length) (c ++ [e]) else none
      | _, _ => none
    else match p.2[cs.length]? with
      | some (some c) => compM g t f ds ρ (p.2.take cs.length) c
      | _ => none
def xComp (f : MI) (g : MG) (t : MT) (e : ME) (vs : List Nat) : ME := fun ρ cs => (f ρ cs).bind fun p => (compM g t e p.1 (wipeR ρ vs) p.2 []).map fun q => (.fr q.1, q.2)
theorem take_of {K : PySem.W.Frag} {O : List (Option Addr)} {p : Addr} {cs : Cs} {H : Hp} (w : Wd K (O ++ [some p]) cs H) : ∃ c, cs[O.length]? = some (some c) ∧ cs = cs.take O.length ++ [some c] := by
  obtain ⟨c, vs, h1, _, _⟩ := w.cell O.length p (by simp)
  have hl : cs.length = O.length + 1 := by rw [w.len]; simp
  refine ⟨c, h1, ?_⟩
  apply List.ext_getElem?
  intro i
  by_cases hi : i < O.length
  · rw [List.getElem?_append_left (by simp; omega), List.getElem?_take_of_lt hi]
  · by_cases he : i = O.length
    · subst he
      rw [List.getElem?_append_right (by simp; omega)]
      have : O.length - (cs.take O.length).length = 0 := by simp; omega
      rw [this, h1]; rfl
    · rw [List.getElem?_eq_none (by omega), List.getElem?_eq_none (by simp; omega)]
theorem wipe_wipe (σ : L2.St) (vs : List Nat) : L2.wipe (L2.wipe σ vs) vs = L2.wipe σ vs := by
  apply List.ext_getElem?
  intro j
  by_cases c : j ∈ vs ∧ j < σ.length
  · simp only [wipe_get, wipe_length, if_pos c]
  · simp only [wipe_get, wipe_length, if_neg c]
theorem set_take {cs : Cs} {n : Nat} {x : Option (List D)} (h : cs.length = n + 1) : cs.set n x = cs.take n ++ [x] := by
  apply List.ext_getElem?
  intro i
  by_cases hi : i < n
  · rw [List.getElem?_append_left (by simp; omega), List.getElem?_take_of_lt hi, List.getElem?_set_ne (by omega)]
  · by_cases he : i = n
    · subst he
      rw [List.getElem?_set_self (by omega), List.getElem?_append_right (by simp; omega)]
      have : i - (cs.take i).length = 0 := by simp; omega
      rw [this]; rfl
    · rw [List.getElem?_eq_none (by simp; omega), List.getElem?_eq_none (by simp; omega)]
theorem tLc_of {K : PySem.W.Frag} {f : MI} {g : MG} {t : MT} {e : ME} {vs : List Nat} {σ : L2.St} {H : Hp} {Q : VK} (h : tX K (xComp f g t e vs) σ H Q) : tLc (tI K f) (tG K vs g) (tXT K t) (tX K e) vs σ H Q := by
  obtain ⟨ρ, O, cs, r, cs', e0, en, w, p⟩ := h
  obtain ⟨⟨ds, cs1⟩, g1, e1⟩ := Option.bind_eq_some_iff.mp e0
  obtain ⟨⟨res, cs9⟩, g2, e2⟩ := Option.map_eq_some_iff.mp e1
  clear e0 e1
  cases e2
  refine ⟨ρ, O, cs, ds, cs1, g1, en, w, fun J H1 c1 w1 wk D hD => ?_⟩
  have hD0 : H D = none := w.new_of w1 c1 hD
  have ex0 : Ext 0 O (O ++ [some D]) H1 := ext_new (K := K) (Nat.zero_le _) hD
  have nD : D ∉ live O := w1.fresh hD
  have w0 : Wd K (O ++ [some D]) (cs1 ++ [some []]) (upd H1 D (.lst [])) := w1.newList hD .nil
  have cN : Ch O H1 (upd H1 D (.lst [])) := ch_new hD
  have en0 : EnvOk K (O ++ [some D]) (upd H1 D (.lst [])) (wipeR ρ vs) (L2.wipe σ vs) := EnvOk.ext (n0 := 0) ((en.ch c1).wipe vs) hD cN
  refine ⟨fun i m H' => m = ds.length - i ∧ i ≤ ds.length ∧ ∃ cs2 acc, compM g t e (ds.drop i) (wipeR ρ vs) cs2 acc = some (res, cs9) ∧ Wd K (O ++ [some D]) (cs2 ++ [some acc]) H' ∧ EnvOk K (O ++ [some D]) H' (wipeR ρ vs) (L2.wipe σ vs) ∧ Ch O H1 H', ⟨ds.length, by simp, Nat.zero_le _, cs1, [], g2, w0, en0, cN⟩, ?_⟩
  rintro i m H' ⟨rfl, hi', cs2, acc, e3, w', en', ch'⟩
  have sb : Sub O H1 (O ++ [some D]) H' := Sub.of ex0 ch'
  have hcs2 : cs2.length = O.length := by have := w'.len; simpa using this
  by_cases hlt : i < ds.length
  · have hd' : ds[i]? = some ds[i] := List.getElem?_eq_getElem hlt
    rw [List.drop_eq_getElem_cons hlt] at e3
    obtain ⟨ρ1, h1, e4⟩ := Option.bind_eq_some_iff.mp e3
    obtain ⟨⟨b, cs3⟩, h2, e5⟩ := Option.bind_eq_some_iff.mp e4
    clear e3 e4
    obtain ⟨go, yl⟩ := (wk i _ _ H' sb w').2 _ hd'
    refine .inr ⟨go, fun H2 => i + 1 ≤ ds.length ∧ ∃ cs2 acc, compM g t e (ds.drop (i + 1)) (wipeR ρ vs) cs2 acc = some (res, cs9) ∧ Wd K (O ++ [some D]) (cs2 ++ [some acc]) H2 ∧ EnvOk K (O ++ [some D]) H2 (wipeR ρ vs) (L2.wipe σ vs) ∧ Ch O H1 H2, fun H2 h2 => ⟨ds.length - (i + 1), by omega, rfl, h2⟩, fun x H3 hy => ?_⟩
    obtain ⟨c3, w3, r3⟩ := yl x H3 hy
    refine ⟨_, O ++ [some D], _, ds[i], ρ1, h1, r3, en'.ch c3, w3, fun σ4 en4 q4 => ⟨by rw [q4]; exact wipe_wipe σ vs, ?_⟩⟩
    refine ⟨ρ1, _, _, b, cs3, h2, en4, w3, fun H5 c5 w5 => ?_⟩
    cases b with
    | true =>
      obtain ⟨⟨r, cs4⟩, h6, e6⟩ := Option.bind_eq_some_iff.mp e5
      refine ⟨ρ1, _, cs3, r, cs4, h6, en4.ch c5, w5, fun v H6 c6 w6 rv => ?_⟩
      have rr := rv.deg
      obtain ⟨c, hc, ec⟩ := take_of w6
      dsimp only at e6
      rw [hcs2] at e6
      split at e6
      · rename_i d' c' hd2 hc2
        rw [hc] at hc2; cases hc2
        rw [hd2] at rr
        obtain ⟨hz, e7⟩ : c.length < sizeLine ∧ compM g t e (ds.drop (i + 1)) (wipeR ρ vs) (cs4.take O.length) (c ++ [d']) = some (res, cs9) := by
          by_cases hz : c.length < sizeLine
          · rw [if_pos hz] at e6; exact ⟨hz, e6⟩
          · rw [if_neg hz] at e6; cases e6
        obtain ⟨c0, vs0, k1, k2, k3⟩ := w6.cell O.length D (by simp)
        rw [hc] at k1; cases k1
        obtain ⟨w7, c7⟩ := w6.write (k := O.length) (a := D) (by simp) (k3.append (.cons (show Rp K (DL.hd _ H6) v d' from rr) .nil))
        refine ⟨vs0, k2, by rw [k3.length]; exact hz, hlt, cs4.take O.length, c ++ [d'], e7, ?_, ?_, ?_⟩
        · rw [← set_take (by rw [w6.len]; simp)]; exact w7
        · exact (((en'.ch c3).ch c5).ch c6).ch c7
        · exact (((ch'.ext ex0 c3).ext ex0 c5).ext ex0 c6).ext ex0 c7
      · cases e6
    | false =>
      obtain ⟨c, hc, ec⟩ := take_of w5
      have e6 : (match cs3[cs2.length]? with
        | some (some c) => compM g t e (ds.drop (i + 1)) (wipeR ρ vs) (cs3.take cs2.length) c
        | _ => none) = some (res, cs9) := e5
      rw [hcs2, hc] at e6
      refine ⟨hlt, cs3.take O.length, c, e6, by rw [← ec]; exact w5, (en'.ch c3).ch c5, (ch'.ext ex0 c3).ext ex0 c5⟩
  · have ei : i = ds.length := by omega
    subst ei
    rw [List.drop_length] at e3
    cases e3
    exact .inl ⟨(wk ds.length _ _ H' sb w').1 (Nat.le_refl _), p _ H' (c1.trans ch') w'.pop.1 ⟨D, rfl, hD0, w'⟩⟩
end
end DL
namespace DL
open PySem PySem.Spec PyProof.Rows L2
section
variable {X : Cx}
abbrev BlkX (X : Cx) (scope : Scope) (P : Cx → Prop) : Prop := ∀ (s : Shared) (H : Hp) (C : Addr) (cl : List (Str × Addr)) (fp : List Addr), P (X.blk s H scope (compEnvC scope cl C X.env) fp)
theorem xe_comp {elt tg iter : Expr} {ifs : List Expr} {scope : Scope} {own : List (Str × Nat)} {pos : Pos} {f : MI} {g : MG} {t : MT} {e : ME} (hc : X.calm = true) (hN : X.N.Nodup) (hi : XI X f tg iter) (ok : BlkOk X.N X.env.scope scope own)
    (hg : BlkX X scope fun Y => XG Y (own.map (·.2)) g tg) (ht : BlkX X scope fun Y => XTs Y t ifs) (he : BlkX X scope fun Y => XE Y e elt) (hs : ∀ x, foldedSetIterable iter X.env x = pure x := by intro _; rfl) :
    XE X (xComp f g t e (own.map (·.2))) (.ListComp elt [⟨tg, iter, ifs, 0⟩] scope pos) := (
    have hg' : ∀ (s : Shared) (H : Hp) (C : Addr) (cl : List (Str × Addr)) (fp : List Addr), PG (X.blk s H scope (compEnvC scope cl C X.env) fp) tg (tG X.K (own.map (·.2)) g) := hg
    have ht' : ∀ (s : Shared) (H : Hp) (C : Addr) (cl : List (Str × Addr)) (fp : List Addr), PTs (X.blk s H scope (compEnvC scope cl C X.env) fp) ifs (tXT X.K t) := ht
    have he' : ∀ (s : Shared) (H : Hp) (C : Addr) (cl : List (Str × Addr)) (fp : List Addr), PE (X.blk s H scope (compEnvC scope cl C X.env) fp) elt (tX X.K e) := he
    pe_weak (pe_lc hc hN hi ok hg' ht' he' hs) fun σ H Q h => tLc_of h)
theorem xs_setC {i : Nat} {y : Str} {py : Pos} {elt tg iter : Expr} {ifs : List Expr} {scope : Scope} {own : List (Str × Nat)} {pos spos : Pos} {f : MI} {g : MG} {t : MT} {e : ME} (hc : X.calm = true) (hN : X.N.Nodup) (hy : X.N[i]? = some y) (hyl : X.env.scope.names.lookup y = some .local)
    (hsw : swapsWith (.ListComp elt [⟨tg, iter, ifs, 0⟩] scope pos) (some (.Name y py)) spos.line X.env = pure true) (hi : XI X f tg iter) (ok : BlkOk X.N X.env.scope scope own)
    (hg : BlkX X scope fun Y => XG Y (own.map (·.2)) g tg) (ht : BlkX X scope fun Y => XTs Y t ifs) (he : BlkX X scope fun Y => XE Y e elt) (hs : ∀ x, foldedSetIterable iter X.env x = pure x := by intro _; rfl) :
    XS X (sSet i (xComp f g t e (own.map (·.2)))) (.Assign [.Name y py] (.ListComp elt [⟨tg, iter, ifs, 0⟩] scope pos) spos) :=
  (
    have hg' : ∀ (s : Shared) (H : Hp) (C : Addr) (cl : List (Str × Addr)) (fp : List Addr), PG (X.blk s H scope (compEnvC scope cl C X.env) fp) tg (tG X.K (own.map (·.2)) g) := hg
    have ht' : ∀ (s : Shared) (H : Hp) (C : Addr) (cl : List (Str × Addr)) (fp : List Addr), PTs (X.blk s H scope (compEnvC scope cl C X.env) fp) ifs (tXT X.K t) := ht
    have he' : ∀ (s : Shared) (H : Hp) (C : Addr) (cl : List (Str × Addr)) (fp : List Addr), PE (X.blk s H scope (compEnvC scope cl C X.env) fp) elt (tX X.K e) := he
    ps_weak (ps_setLc hc hN hy hyl hsw hi ok hg' ht' he' hs) fun D σ H h => tLc_of (tSet_of h))
theorem xs_ownC {i : Nat} {y : Str} {py : Pos} {elt tg iter : Expr} {ifs : List Expr} {scope : Scope} {own : List (Str × Nat)} {pos spos : Pos} {f : MI} {g : MG} {t : MT} {e : ME} (hc : X.calm = true) (hN : X.N.Nodup) (hy : X.N[i]? = some y) (hyl : X.env.scope.names.lookup y = some .local)
    (hsw : swapsWith (.ListComp elt [⟨tg, iter, ifs, 0⟩] scope pos) (some (.Name y py)) spos.line X.env = pure true) (hi : XI X f tg iter) (ok : BlkOk X.N X.env.scope scope own)
    (hg : BlkX X scope fun Y => XG Y (own.map (·.2)) g tg) (ht : BlkX X scope fun Y => XTs Y t ifs) (he : BlkX X scope fun Y => XE Y e elt) (hs : ∀ x, foldedSetIterable iter X.env x = pure x := by intro _; rfl) :
    XS X (sOwn i (xComp f g t e (own.map (·.2)))) (.Assign [.Name y py] (.ListComp elt [⟨tg, iter, ifs, 0⟩] scope pos) spos) :=
  (
    have hg' : ∀ (s : Shared) (H : Hp) (C : Addr) (cl : List (Str × Addr)) (fp : List Addr), PG (X.blk s H scope (compEnvC scope cl C X.env) fp) tg (tG X.K (own.map (·.2)) g) := hg
    have ht' : ∀ (s : Shared) (H : Hp) (C : Addr) (cl : List (Str × Addr)) (fp : List Addr), PTs (X.blk s H scope (compEnvC scope cl C X.env) fp) ifs (tXT X.K t) := ht
    have he' : ∀ (s : Shared) (H : Hp) (C : Addr) (cl : List (Str × Addr)) (fp : List Addr), PE (X.blk s H scope (compEnvC scope cl C X.env) fp) elt (tX X.K e) := he
    ps_weak (ps_setLc hc hN hy hyl hsw hi ok hg' ht' he' hs) fun D σ H h => tLc_of (tOwn_of h))
end

/-! ### defs -/
abbrev MF := List Rv → Cs → Option (Rv × Cs)
/-- the def at f does as m says (m: the arguments, the cells) -/
structure FnD (P : Program) (w : World) (K : PySem.W.Frag) (mg : Str → Option Value) (base : Heap) (k : Nat) (f : Addr) (fd : FuncData) (ps : List Str) (m : MF) : Prop where
  run : ∀ (A : Around) (outer : List Env) (s : Shared) (H : Hp) (args : Args) (us : List Value) (vs : List V) (Q : VK) (rs : List Rv) (O : List (Option Addr)) (cs : Cs) (r : Rv) (cs' : Cs),
    A.guards = some [] → base.NoDigits → Room k A → Env0 P w K mg base A outer s H → BindsTo s fd args (ps.zip us) → Vals vs us → vs.length = ps.length → Wd K O cs H → ArRs K O H rs vs → m rs cs = some (r, cs') → PostX K O H r cs' Q →
    codeAny (model P w) A (.call (.ref f) args) (CR CX0 outer P w H s Q E0) s
theorem FnD.mono {P : Program} {w : World} {K : PySem.W.Frag} {mg : Str → Option Value} {base : Heap} {j k : Nat} {f : Addr} {fd : FuncData} {ps : List Str} {m : MF} (F : FnD P w K mg base j f fd ps m) (h : j ≤ k) : FnD P w K mg base k f fd ps m :=
  ⟨fun A outer s H args us vs Q rs O cs r cs' hg hn hr => F.run A outer s H args us vs Q rs O cs r cs' hg hn (hr.mono h)⟩
theorem FnD.imp {P : Program} {w : World} {K : PySem.W.Frag} {mg : Str → Option Value} {base : Heap} {k : Nat} {f : Addr} {fd : FuncData} {ps : List Str} {m m' : MF} (F : FnD P w K mg base k f fd ps m) (h : ∀ rs cs r, m' rs cs = some r → m rs cs = some r) : FnD P w K mg base k f fd ps m' :=
  ⟨fun A outer s H args us vs Q rs O cs r cs' hg hn hr e b v l wd a em p => F.run A outer s H args us vs Q rs O cs r cs' hg hn hr e b v l wd a (h _ _ _ em) p⟩
/-- a def's mirror from its body's -/
def fnM (n : Nat) (b : MS) : MF := fun rs cs => (b cs.length (rs.map some ++ List.replicate (n - rs.length) none) cs).bind fun o => match o with
  | .rt (.dat d) cs' => some (.dat d, cs'.take cs.length)
  | .rt (.own k) cs' => if cs.length ≤ k then (match cs'[k]? with
    | some (some c) => some (.fr c, cs'.take cs.length)
    | _ => none) else none
  | .nx _ cs' => some (.dat .none, cs'.take cs.length)
  | _ => none
theorem live_take {O : List (Option Addr)} {n : Nat} {a : Addr} (h : a ∈ live (O.take n)) : a ∈ live O := by
  obtain ⟨i, q⟩ := mem_live.mp h
  have hi : i < n := by
    have := (List.getElem?_eq_some_iff.mp q).1
    simp at this; omega
  rw [List.getElem?_take_of_lt hi] at q
  exact mem_live.mpr ⟨i, q⟩
theorem Wd.take {K : PySem.W.Frag} {O : List (Option Addr)} {cs : Cs} {H : Hp} (w : Wd K O cs H) (n : Nat) : Wd K (O.take n) (cs.take n) H := by
  have sb : ∀ a o, hd O H a = some o → hd (O.take n) H a = some o := fun a o h => by
    obtain ⟨m, e⟩ := hd_some h
    exact hd_of (fun z => m (live_take z)) e
  have get : ∀ {α : Type} {l : List α} {i : Nat} {x : α}, (l.take n)[i]? = some x → i < n ∧ l[i]? = some x := fun {α l i x} q => by
    have hi : i < n := by
      have := (List.getElem?_eq_some_iff.mp q).1
      simp at this; omega
    rw [List.getElem?_take_of_lt hi] at q
    exact ⟨hi, q⟩
  refine ⟨by simp [w.len], fun i j a h1 h2 => w.inj i j a (get h1).2 (get h2).2, fun i a h => ?_, fun i h => ?_⟩
  · obtain ⟨hi, q⟩ := get h
    obtain ⟨c, vs, h1, h2, h3⟩ := w.cell i a q
    exact ⟨c, vs, by rw [List.getElem?_take_of_lt hi]; exact h1, h2, h3.mono sb⟩
  · obtain ⟨hi, q⟩ := get h
    rw [List.getElem?_take_of_lt hi]; exact w.ded i q
theorem Ext.take_eq {n0 : Nat} {O O' : List (Option Addr)} {H : Hp} (e : Ext n0 O O' H) (h : n0 = O.length) : O'.take n0 = O := by
  apply List.ext_getElem?
  intro i
  by_cases hi : i < n0
  · rw [List.getElem?_take_of_lt hi]; exact e.pre i hi
  · rw [List.getElem?_eq_none (by simp; omega), List.getElem?_eq_none (by omega)]
/-- the result of a body, for the caller -/
theorem body_end {K : PySem.W.Frag} {O O' : List (Option Addr)} {cs cs' : Cs} {H H' : Hp} {r r0 : Rv} {v : V} (w : Wd K O cs H) (ex : Ext cs.length O O' H) (c : Ch O H H') (w' : Wd K O' cs' H') (ar : ArR K O' r0 v H')
    (h : (∃ d, r0 = .dat d ∧ r = .dat d) ∨ ∃ k l, r0 = .own k ∧ cs.length ≤ k ∧ cs'[k]? = some (some l) ∧ r = .fr l) : Wd K O (cs'.take cs.length) H' ∧ RvR K O H (cs'.take cs.length) r v H' := by
  have eO : O'.take cs.length = O := ex.take_eq w.len
  have w2 := w'.take cs.length
  rw [eO] at w2
  have sb : ∀ a o, hd O' H' a = some o → hd O H' a = some o := fun a o q => by
    obtain ⟨m, e⟩ := hd_some q
    exact hd_of (fun z => m (live_take (n := cs.length) (by rw [eO]; exact z))) e
  refine ⟨w2, ?_⟩
  rcases h with ⟨d, rfl, rfl⟩ | ⟨k, l, rfl, hk, hl, rfl⟩
  · exact Rp.mono sb ar
  · obtain ⟨p, rfl, hp⟩ := ar
    obtain ⟨l', vs, h1, h2, h3⟩ := w'.cell k p hp
    rw [hl] at h1; cases h1
    have np : p ∉ live O := fun z => by
      obtain ⟨i, q⟩ := mem_live.mp z
      have hi : i < cs.length := by rw [w.len]; exact (List.getElem?_eq_some_iff.mp q).1
      have q' : O'[i]? = some (some p) := by rw [ex.pre i hi]; exact q
      have := w'.inj i k p q' hp
      omega
    have hn : H p = none := by
      rcases ex.sub p (mem_live.mpr ⟨k, hp⟩) with z | z
      · exact absurd z np
      · exact z
    refine ⟨p, rfl, hn, ?_⟩
    have hlen : (cs'.take cs.length).length = O.length := w2.len
    have sp : ∀ {i : Nat} {x : Option Addr}, (O ++ [some p])[i]? = some x → (i < O.length ∧ O[i]? = some x ∧ O'[i]? = some x) ∨ (i = O.length ∧ x = some p) := fun {i x} q => by
      by_cases hi : i < O.length
      · rw [List.getElem?_append_left hi] at q
        exact .inl ⟨hi, q, by rw [ex.pre i (by rw [w.len]; exact hi)]; exact q⟩
      · rw [List.getElem?_append_right (by omega)] at q
        have h0 : i - O.length = 0 := by
          have := (List.getElem?_eq_some_iff.mp q).1
          simp at this; omega
        rw [h0] at q
        simp at q
        exact .inr ⟨by omega, q.symm⟩
    have sb2 : ∀ a o, hd O' H' a = some o → hd (O ++ [some p]) H' a = some o := fun a o q => by
      obtain ⟨m, e⟩ := hd_some q
      refine hd_of (fun z => ?_) e
      obtain ⟨i, q2⟩ := mem_live.mp z
      rcases sp q2 with ⟨_, _, q3⟩ | ⟨_, q3⟩
      · exact m (mem_live.mpr ⟨i, q3⟩)
      · cases q3; exact m (mem_live.mpr ⟨k, hp⟩)
    refine ⟨by simp [hlen], fun i j a a1 a2 => ?_, fun i a a1 => ?_, fun i a1 => ?_⟩
    · rcases sp a1 with ⟨i1, i2, _⟩ | ⟨i1, i2⟩ <;> rcases sp a2 with ⟨j1, j2, _⟩ | ⟨j1, j2⟩
      · exact w.inj i j a i2 j2
      · cases j2; exact absurd (mem_live.mpr ⟨i, i2⟩) np
      · cases i2; exact absurd (mem_live.mpr ⟨j, j2⟩) np
      · omega
    · rcases sp a1 with ⟨i1, i2, i3⟩ | ⟨i1, i2⟩
      · obtain ⟨c', vs', q1, q2, q3⟩ := w'.cell i a i3
        refine ⟨c', vs', ?_, q2, q3.mono sb2⟩
        rw [List.getElem?_append_left (by rw [hlen]; exact i1), List.getElem?_take_of_lt (by rw [w.len]; exact i1)]
        exact q1
      · cases i2
        refine ⟨l, vs, ?_, h2, h3.mono sb2⟩
        rw [i1, ← hlen]; simp
    · rcases sp a1 with ⟨i1, i2, i3⟩ | ⟨i1, i2⟩
      · rw [List.getElem?_append_left (by rw [hlen]; exact i1)]
        exact w2.ded i i2
      · cases i2
theorem start_env {K : PySem.W.Frag} {O : List (Option Addr)} {H : Hp} {N : List Str} : ∀ {rs : List Rv} {vs : List V}, ArRs K O H rs vs → EnvOk K O H (rs.map some ++ List.replicate (N.length - rs.length) none) (L2.start N vs) := fun {rs vs} h => by
  have hl := h.length
  unfold L2.start
  refine ⟨by simp [hl], fun i r hi => ?_⟩
  by_cases c : i < rs.length
  · rw [List.getElem?_append_left (by simpa using c), List.getElem?_map] at hi
    rw [List.getElem?_append_left (by simp; omega), List.getElem?_map]
    have : ∀ {rs : List Rv} {vs : List V} {i : Nat} {r : Rv}, ArRs K O H rs vs → rs[i]? = some r → ∃ v, vs[i]? = some v ∧ ArR K O r v H := by
      intro rs
      induction rs with
      | nil => intro vs i r _ e; simp at e
      | cons r0 rs ih =>
        intro vs i r a e
        cases vs with
        | nil => exact a.elim
        | cons v vs =>
          cases i with
          | zero => simp at e; subst e; exact ⟨v, rfl, a.1⟩
          | succ i =>
            obtain ⟨u, h1, h2⟩ := ih a.2 (by simpa using e)
            exact ⟨u, by simpa using h1, h2⟩
    cases q : rs[i]? with
    | none => rw [q] at hi; cases hi
    | some r1 =>
      rw [q] at hi
      cases hi
      obtain ⟨v, h1, h2⟩ := this h q
      exact ⟨v, by rw [h1]; rfl, h2⟩
  · rw [List.getElem?_append_right (by simpa using c), List.getElem?_replicate] at hi
    split at hi <;> cases hi
/-- the context of a body -/
abbrev cxD (P : Program) (w : World) (K : PySem.W.Frag) (mg : Str → Option Value) (base : Heap) (N : List Str) (qual : Str) (scope : Scope) (f : Addr) (cdv : Value) (A : Around) (outer : List Env) (s : Shared) (H : Hp) : Cx :=
  (cxOf CX0 P w K mg base N qual scope f cdv A outer s H E0).nox
theorem fnD_of {P : Program} {w : World} {K : PySem.W.Frag} {mg : Str → Option Value} {base : Heap} {k : Nat} {f : Addr} {x qual : Str} {params : Arguments} {body : List Stmt} {scope : Scope} {dvs : List V} {kws : List (Str × V)} {fd : FuncData} {N ps : List Str} {b : MS}
    (F : FunD K x qual params body scope dvs kws f fd) (S : FnScope N ps scope)
    (hb : ∀ (cdv : Value) (A : Around) (outer : List Env) (s : Shared) (H : Hp), Room k (A.deeper (envOfC qual scope s.heap.objs.size f cdv)) → Rm (cxD P w K mg base N qual scope f cdv A outer s H) → XSs (cxD P w K mg base N qual scope f cdv A outer s H) b body) :
    FnD P w K mg base (k + 1) f fd ps (fnM N.length b) := by
  obtain ⟨oc, od, dV, kV, doc, pm, an, cdv, ct, osl, rfl, lk, hcd, _, _⟩ := F.ex
  refine ⟨fun A outer s H args us vs Q rs O cs r cs' hg hnd hr e0 hbd rv hl wd ar em p => ?_⟩
  have KX : K.In s.heap := e0.mod.kin.keeps fun a o e => (e0.bs a o e).1
  have lim : s.heap.NoLimit := e0.mod.nolimit.keeps fun a o e => (e0.bs a o e).1
  refine codeAny_call_function hr.depth (KX _ _ lk) rfl S.co S.gen rfl (PySem.W.codeRec_of KX hcd) (hbd _ _ _ _ ?_)
  refine wpAny_newFunctionEnv_cells S.kind (fun y hy => ?_) fun env he s1 xx => ?_
  · rcases S.par y.1 (List.of_mem_zip hy).1 with q | q
    · exact .inl q
    · exact .inr ⟨q, PySem.W.cellsFrom_some _ _ _ (.inl q)⟩
  · subst he
    refine ⟨lim.keeps xx.toInCall.keep, codeAny_func ?_⟩
    have I := inv_start (CX := CX0) (E := E0) (qual := qual) (f := f) (cd := cdv) (outer := outer) S hr.hd e0 hl rv xx
    have hr' := hr.deeper (envOfC qual scope s.heap.objs.size f cdv)
    have rm : Rm (cxD P w K mg base N qual scope f cdv A outer s H) := ⟨hr.hd, by
      have := hr'.un
      show (A.deeper (envOfC qual scope s.heap.objs.size f cdv)).units + 200 < cLine
      omega, by show A.guards = some []; exact hg, rfl, hnd⟩
    have hbody := PSs.nox (hb cdv A outer s H hr' rm)
    unfold fnM at em
    obtain ⟨o, h1, h2⟩ := Option.bind_eq_some_iff.mp em
    have hpost : PostS K cs.length O H o { nx := fun _ H' => Q .non H', rt := Q } := by
      cases o with
      | rt r0 cs1 =>
        intro v O' H' ex c w' ar'
        cases r0 with
        | dat d =>
          cases h2
          obtain ⟨a1, a2⟩ := body_end (r := .dat d) wd ex c w' ar' (.inl ⟨d, rfl, rfl⟩)
          exact p v H' c a1 a2
        | own j =>
          have h3 : (if cs.length ≤ j then (match cs1[j]? with
            | some (some c) => some (Rv.fr c, cs1.take cs.length)
            | _ => none) else none) = some (r, cs') := h2
          by_cases hj : cs.length ≤ j
          · rw [if_pos hj] at h3
            split at h3
            · rename_i l hl'
              cases h3
              obtain ⟨a1, a2⟩ := body_end (r := .fr l) wd ex c w' ar' (.inr ⟨j, l, rfl, hj, hl', rfl⟩)
              exact p v H' c a1 a2
            · cases h3
          · rw [if_neg hj] at h3; cases h3
        | fr l => cases h2
      | nx ρ1 cs1 =>
        cases h2
        intro σ' O' H' ex c en' w'
        obtain ⟨a1, a2⟩ := body_end (r0 := .dat .none) (r := .dat .none) (v := .non) wd ex c w' .non (.inl ⟨_, rfl, rfl⟩)
        exact p .non H' c a1 a2
      | bk _ _ => cases h2
      | ct _ _ => cases h2
    refine wpAny_mono (hbody.run [] s1 (L2.start N vs) H { nx := fun _ H' => Q .non H', rt := Q } I ⟨cs.length, _, O, cs, o, h1, by rw [wd.len]; exact Nat.le_refl _, start_env ar, wd, hpost⟩) (fun fl s' hs => ?_) fun e s' hs => hs
    cases fl with
    | ret u =>
      obtain ⟨v, σ', H', J, rv', q⟩ := hs
      exact ⟨v, H', J.os, J.bare, J.base, J.hok, rv', q⟩
    | next =>
      obtain ⟨σ', H', J, q⟩ := hs
      exact ⟨V.non, H', J.os, J.bare, J.base, J.hok, rfl, q⟩
    | brk =>
      obtain ⟨_, _, _, q⟩ := hs
      exact q.elim
    | cont =>
      obtain ⟨_, _, _, q⟩ := hs
      exact q.elim
/-! calls -/
section
variable {X : Cx}
def mCallF (n : Nat) (m : MF) (fa : MA) : ME := fun ρ cs => (fa ρ cs).bind fun p => if p.1.length = n then m p.1 p.2 else none
theorem fnD_call {k : Nat} {f : Addr} {fd : FuncData} {ps : List Str} {m : MF} {pins : List (Addr × Obj)} {σ : L2.St} {H : Hp} {s : Shared} {Q : VK} {args : Args} {us : List Value} {vs : List V} {rs : List Rv} {O : List (Option Addr)} {cs cs' : Cs} {r : Rv} (F : FnD X.prog X.w X.K X.mg X.base k f fd ps m) (hr : Room k X.A) (hg : X.A.guards = some []) (hnd : X.base.NoDigits)
    (I : Inv X pins σ H s) (hb : BindsTo s fd args (ps.zip us)) (rv : Vals vs us) (hl : vs.length = ps.length) (wd : Wd X.K O cs H) (ar : ArRs X.K O H rs vs) (em : m rs cs = some (r, cs')) (p : PostX X.K O H r cs' Q) :
    codeAny (model X.prog X.w) X.A (.call (.ref f) args) (fun r s' => match r with
      | .ok (.ret u) => EP X pins σ Q u s'
      | .ok _ => False
      | .error e => X.xe e s') s := by
  refine codeAny_mono (F.run X.A X.stack s H args us vs Q rs O cs r cs' hg hnd hr I.env0 hb rv hl wd ar em p) fun res s' hq => ?_
  cases res with
  | error e => exact hq.elim
  | ok fl =>
    cases fl with
    | ret u => exact I.after hq
    | next => exact hq
    | brk => exact hq
    | cont => exact hq
end
end DL
namespace DL
open PySem PySem.Spec PyProof.Rows L2
def ArgP (K : PySem.W.Frag) (O : List (Option Addr)) (H : Hp) (cs1 : Cs) (rs : List Rv) (vs : List V) (H' : Hp) : Prop := Ch O H H' ∧ Wd K O cs1 H' ∧ ArRs K O H' rs vs
section
variable {X : Cx}
theorem ite_none {α : Type} {c : Prop} [Decidable c] {a : Option α} {b : α} (h : (if c then a else none) = some b) : c ∧ a = some b := by
  split at h
  · exact ⟨by assumption, h⟩
  · cases h
theorem call_end {k : Nat} {f : Addr} {fd : FuncData} {ps : List Str} {m : MF} {pins : List (Addr × Obj)} {σ : L2.St} {H : Hp} {s : Shared} {Q : VK} {us : List Value} {kw : List (Str × Value)} {us2 : List Value} {vs : List V} {rs : List Rv} {O : List (Option Addr)} {cs cs' : Cs} {r : Rv} (F : FnD X.prog X.w X.K X.mg X.base k f fd ps m) (hr : Room k X.A) (hg : X.A.guards = some []) (hnd : X.base.NoDigits)
    (I : Inv X pins σ H s) (hb : BindsTo s fd ⟨us, kw⟩ (ps.zip us2)) (rv : Vals vs us2) (hl : rs.length = ps.length) (wd : Wd X.K O cs H) (ar : ArRs X.K O H rs vs) (em : m rs cs = some (r, cs')) (p : PostX X.K O H r cs' Q) :
    wpAny (model X.prog X.w) X.A (call (.ref f) us kw) (EP X pins σ Q) X.xe s := by
  refine wpAny_call (codeAny_mono (fnD_call F hr hg hnd I hb rv (by rw [← ar.length]; exact hl) wd ar em p) fun r s' hq => ?_)
  cases r with
  | error e => exact hq
  | ok fl => cases fl with
    | ret u => exact hq
    | next => exact hq
    | brk => exact hq
    | cont => exact hq
theorem xe_call {k : Nat} {f : Addr} {fd : FuncData} {ps : List Str} {m : MF} {x : Str} {e : Expr} {es : List Expr} {fa : MA} {p pos : Pos} (F : FnD X.prog X.w X.K X.mg X.base k f fd ps m) (hr : Room k X.A) (rm : Rm X) (hg : Gl X x) (hm : X.mg x = some (.ref f)) (hk : PySem.W.keepIn X.K (.ref f) = true)
    (hb : Binds X.K fd ps []) (ha : XA X fa (e :: es)) (hdb : (x == ("__debug__" : Str)) = false := by decide)
    (he : starEach (e :: es) X.env = (false, eval e X.env) :: starEach es X.env := by rfl) (hpl : (backTo pos (starEach es X.env)).any (·.1) = false := by rfl) : XE X (mCallF ps.length m fa) (.Call (.Name x p) (e :: es) [] pos) := by
  refine ⟨fun pins s σ H Q I ⟨ρ, O, cs, r, cs', e0, en, w, pq⟩ => ?_⟩
  obtain ⟨⟨rs, cs1⟩, h1, h2⟩ := Option.bind_eq_some_iff.mp e0
  obtain ⟨hl, em⟩ := ite_none h2
  refine wpAny_Call_Name_kw (ld_glob I hg hm ?_ hdb)
  have hrun := ha.run pos pins s σ H (ArgP X.K O H cs1 rs) I ⟨ρ, O, cs, rs, cs1, h1, en, w, fun vs H' c w' ra => ⟨c, w', ra⟩⟩
  refine PySem.W.callWith_K (h₀ := X.base) I.ok.mod.kin hk (thn hrun fun us s1 hus => ?_) he hpl
  obtain ⟨vs, H1, I1, rv, c1, w1, ra⟩ := hus
  refine ⟨I1.kIn, ?_⟩
  have hb' := hb s1 us I1.kIn (by rw [List.append_nil, ← rv.length, ← ra.length]; exact hl)
  rw [List.append_nil] at hb'
  exact call_end F hr rm.gd rm.nd I1 hb' rv hl w1 ra em (pq.step c1 w1)
theorem xe_call0 {k : Nat} {f : Addr} {fd : FuncData} {ps : List Str} {m : MF} {x : Str} {p pos : Pos} (F : FnD X.prog X.w X.K X.mg X.base k f fd ps m) (hr : Room k X.A) (rm : Rm X) (hg : Gl X x) (hm : X.mg x = some (.ref f)) (hk : PySem.W.keepIn X.K (.ref f) = true)
    (hb : Binds X.K fd ps []) (hdb : (x == ("__debug__" : Str)) = false := by decide) : XE X (mCallF ps.length m aNil) (.Call (.Name x p) [] [] pos) := by
  refine ⟨fun pins s σ H Q I ⟨ρ, O, cs, r, cs', e0, en, w, pq⟩ => ?_⟩
  obtain ⟨⟨rs, cs1⟩, h1, h2⟩ := Option.bind_eq_some_iff.mp e0
  cases h1
  obtain ⟨hl, em⟩ := ite_none h2
  refine wpAny_Call_Name_kw (ld_glob I hg hm ?_ hdb)
  have hb' := hb s [] I.kIn (by simpa using hl)
  exact PySem.W.callWith_K0 I.kIn hk (call_end F hr rm.gd rm.nd I hb' .nil hl w trivial em pq)
/-! keywords -/
def pick {α : Type} (π : List Nat) (l : List α) : List α := π.filterMap fun i => l[i]?
theorem pick_vals {π : List Nat} {vs : List V} {us : List Value} (h : Vals vs us) : Vals (pick π vs) (pick π us) := by
  induction π with
  | nil => exact .nil
  | cons i π ih =>
    unfold pick at ih ⊢
    rw [List.filterMap_cons, List.filterMap_cons]
    cases q : vs[i]? with
    | none => rw [h.none_of q]; exact ih
    | some v =>
      obtain ⟨u, h1, h2⟩ := h.get q
      rw [h1]
      exact .cons h2 ih
theorem ArRs.get {K : PySem.W.Frag} {O : List (Option Addr)} {H : Hp} : ∀ {rs : List Rv} {vs : List V}, ArRs K O H rs vs → ∀ i : Nat, (rs[i]? = none ∧ vs[i]? = none) ∨ ∃ r v, rs[i]? = some r ∧ vs[i]? = some v ∧ ArR K O r v H
  | [], [], _, i => .inl ⟨by simp, by simp⟩
  | r :: rs, v :: vs, h, 0 => .inr ⟨r, v, rfl, rfl, h.1⟩
  | r :: rs, v :: vs, h, i + 1 => by
    rcases ArRs.get h.2 i with ⟨a, b⟩ | ⟨a, b, c, d, e⟩
    · exact .inl ⟨by simpa using a, by simpa using b⟩
    · exact .inr ⟨a, b, by simpa using c, by simpa using d, e⟩
  | [], _ :: _, h, _ => h.elim
  | _ :: _, [], h, _ => h.elim
theorem pick_ar {K : PySem.W.Frag} {O : List (Option Addr)} {H : Hp} {π : List Nat} {rs : List Rv} {vs : List V} (h : ArRs K O H rs vs) : ArRs K O H (pick π rs) (pick π vs) := by
  induction π with
  | nil => exact trivial
  | cons i π ih =>
    unfold pick at ih ⊢
    rw [List.filterMap_cons, List.filterMap_cons]
    rcases h.get i with ⟨a, b⟩ | ⟨r, v, a, b, c⟩
    · rw [a, b]; exact ih
    · rw [a, b]; exact ⟨c, ih⟩
theorem ArRs.append {K : PySem.W.Frag} {O : List (Option Addr)} {H : Hp} : ∀ {rs ss : List Rv} {vs us : List V}, ArRs K O H rs vs → ArRs K O H ss us → ArRs K O H (rs ++ ss) (vs ++ us)
  | [], _, [], _, _, b => b
  | _ :: _, _, _ :: _, _, a, b => ⟨a.1, ArRs.append a.2 b⟩
  | [], _, _ :: _, _, a, _ => a.elim
  | _ :: _, _, [], _, a, _ => a.elim
/-- us by position, then ks: in the parameters' order by π -/
structure KwB (K : PySem.W.Frag) (fd : FuncData) (ps : List Str) (n : Nat) (ks : List Str) (π : List Nat) : Prop where
  to : ∀ (s : Shared) (us ws : List Value), K.In s.heap → us.length = n → ws.length = ks.length → BindsTo s fd ⟨us, ks.zip ws⟩ (ps.zip (pick π (us ++ ws)))
def XK (X : Cx) (f : MA) (kws : List Keyword) : Prop := PK X kws (tXA X.K f)
theorem pk_weak {es : List Keyword} {t t' : TA} (h : PK X es t) (w : ∀ σ H Q, t' σ H Q → t σ H Q) : PK X es t' := ⟨fun pos pins s σ H Q I q => h.run pos pins s σ H Q I (w _ _ _ q)⟩
theorem xk_nil : XK X aNil [] := pk_weak pk_nil fun σ H Q ⟨ρ, O, cs, rs, cs', e, en, w, p⟩ => by
  cases e
  exact p [] H .refl w trivial
theorem xk_cons {nm : Option Str} {e : Expr} {kpos : Pos} {kws : List Keyword} {fa : ME} {fr : MA} (ha : XE X fa e) (hr : XK X fr kws) : XK X (aCons fa fr) (⟨nm, e, kpos⟩ :: kws) := pk_weak (pk_cons ha hr) fun σ H Q h => tCons_of h
def mCallK (n k q : Nat) (π : List Nat) (m : MF) (fa fk : MA) : ME := fun ρ cs => (fa ρ cs).bind fun p => (fk ρ p.2).bind fun z => if p.1.length = n ∧ z.1.length = k ∧ (pick π (p.1 ++ z.1)).length = q then m (pick π (p.1 ++ z.1)) z.2 else none
theorem xe_callK {k n : Nat} {ks : List Str} {π : List Nat} {f : Addr} {fd : FuncData} {ps : List Str} {m : MF} {x : Str} {e : Expr} {es : List Expr} {kws : List Keyword} {fa fk : MA} {p pos : Pos} (F : FnD X.prog X.w X.K X.mg X.base k f fd ps m) (hr : Room k X.A) (rm : Rm X) (hg : Gl X x) (hm : X.mg x = some (.ref f)) (hk : PySem.W.keepIn X.K (.ref f) = true)
    (hb : KwB X.K fd ps n ks π) (ha : XA X fa (e :: es)) (hkw : XK X fk kws) (hall : (backToKw pos (keywordEach kws X.env)).all (·.1.isSome) = true := by rfl) (hks : (backToKw pos (keywordEach kws X.env)).filterMap (·.1) = ks := by rfl)
    (hdb : (x == ("__debug__" : Str)) = false := by decide) (he : starEach (e :: es) X.env = (false, eval e X.env) :: starEach es X.env := by rfl)
    (hpl : ((backTo pos (starEach (e :: es) X.env)).any (·.1) || (backToKw pos (keywordEach kws X.env)).any (·.1.isNone)) = false := by rfl) : XE X (mCallK n ks.length ps.length π m fa fk) (.Call (.Name x p) (e :: es) kws pos) := by
  refine ⟨fun pins s σ H Q I ⟨ρ, O, cs, r, cs', e0, en, w, pq⟩ => ?_⟩
  obtain ⟨⟨rs, cs1⟩, h1, e1⟩ := Option.bind_eq_some_iff.mp e0
  obtain ⟨⟨zs, cs2⟩, h2, e2⟩ := Option.bind_eq_some_iff.mp e1
  obtain ⟨hl, em⟩ := ite_none e2
  refine wpAny_Call_Name_kw (ld_glob I hg hm ?_ hdb)
  have hrun := ha.run pos pins s σ H (ArgP X.K O H cs1 rs) I ⟨ρ, O, cs, rs, cs1, h1, en, w, fun vs H' c w' ra => ⟨c, w', ra⟩⟩
  refine PySem.W.callWith_KW (h₀ := X.base) I.ok.mod.kin hk hall (thn hrun fun us s1 hus => ?_) hpl he
  obtain ⟨vs, H1, I1, rv, c1, w1, ra⟩ := hus
  have hrun2 := hkw.run pos pins s1 σ H1 (ArgP X.K O H1 cs2 zs) I1 ⟨ρ, O, cs1, zs, cs2, h2, en.ch c1, w1, fun vs H' c w' ra => ⟨c, w', ra⟩⟩
  refine thn hrun2 fun ws s2 hws => ?_
  obtain ⟨ys, H2, I2, rz, c2, w2, rb⟩ := hws
  refine ⟨I2.kIn, ?_⟩
  rw [hks]
  have hb' := hb.to s2 us ws I2.kIn (by rw [← rv.length, ← ra.length]; exact hl.1) (by rw [← rz.length, ← rb.length]; exact hl.2.1)
  exact call_end F hr rm.gd rm.nd I2 hb' (pick_vals (rv.append rz)) hl.2.2 w2 (pick_ar ((ra.ch c2).append rb)) em (pq.step (c1.trans c2) w2)
theorem xe_callK0 {k : Nat} {ks : List Str} {π : List Nat} {f : Addr} {fd : FuncData} {ps : List Str} {m : MF} {x : Str} {kws : List Keyword} {fk : MA} {p pos : Pos} (F : FnD X.prog X.w X.K X.mg X.base k f fd ps m) (hr : Room k X.A) (rm : Rm X) (hg : Gl X x) (hm : X.mg x = some (.ref f)) (hk : PySem.W.keepIn X.K (.ref f) = true)
    (hb : KwB X.K fd ps 0 ks π) (hkw : XK X fk kws) (hall : (backToKw pos (keywordEach kws X.env)).all (·.1.isSome) = true := by rfl) (hks : (backToKw pos (keywordEach kws X.env)).filterMap (·.1) = ks := by rfl)
    (hdb : (x == ("__debug__" : Str)) = false := by decide)
    (hpl : ((backTo pos (starEach [] X.env)).any (·.1) || (backToKw pos (keywordEach kws X.env)).any (·.1.isNone)) = false := by rfl) : XE X (mCallK 0 ks.length ps.length π m aNil fk) (.Call (.Name x p) [] kws pos) := by
  refine ⟨fun pins s σ H Q I ⟨ρ, O, cs, r, cs', e0, en, w, pq⟩ => ?_⟩
  obtain ⟨⟨rs, cs1⟩, h1, e1⟩ := Option.bind_eq_some_iff.mp e0
  cases h1
  obtain ⟨⟨zs, cs2⟩, h2, e2⟩ := Option.bind_eq_some_iff.mp e1
  obtain ⟨hl, em⟩ := ite_none e2
  refine wpAny_Call_Name_kw (ld_glob I hg hm ?_ hdb)
  have hrun2 := hkw.run pos pins s σ H (ArgP X.K O H cs2 zs) I ⟨ρ, O, cs, zs, cs2, h2, en, w, fun vs H' c w' ra => ⟨c, w', ra⟩⟩
  refine PySem.W.callWith_KW0 (h₀ := X.base) I.ok.mod.kin hk hall (thn hrun2 fun ws s2 hws => ?_) hpl
  obtain ⟨ys, H2, I2, rz, c2, w2, rb⟩ := hws
  refine ⟨I2.kIn, ?_⟩
  rw [hks]
  have hb' := hb.to s2 [] ws I2.kIn rfl (by rw [← rz.length, ← rb.length]; exact hl.2.1)
  exact call_end F hr rm.gd rm.nd I2 hb' (pick_vals (π := π) rz) hl.2.2 w2 (pick_ar (π := π) rb) em (pq.step c2 w2)
end
end DL
namespace DL
open PySem PySem.Spec PyProof.Rows L2
section
variable {X : Cx}
/-! isinstance -/
def tyN : D → String
  | .none => "NoneType"
  | .bool _ => "bool"
  | .int _ => "int"
  | .str _ => "str"
  | .list _ => "list"
  | .tuple _ => "tuple"
  | .dict _ => "dict"
theorem tyX_of {K : PySem.W.Frag} {O : List (Option Addr)} {H : Hp} {v : V} {d : D} (h : Sh K O H v d) : TyX K H v (.type (tyN d)) := by
  cases d with
  | none => cases h.none; exact .base .non
  | bool b => cases h.bool; exact .base (.bl b)
  | int i => cases h.int; exact .base (.int i)
  | str x => obtain ⟨rfl, _⟩ := h.str; exact .base (.str x)
  | list ds =>
    obtain ⟨a, vs, rfl, q, _⟩ := h.list
    rcases q with (q | ⟨o, q⟩) | ⟨its, n, q, _⟩
    · exact .base (.lst q)
    · exact .base (.frz q)
    · exact .kList q rfl
  | tuple ds =>
    obtain ⟨a, vs, rfl, q, _⟩ := h.tuple
    rcases q with q | ⟨o, q⟩
    · exact .base (.tup q)
    · exact .fTuple q
  | dict ds =>
    obtain ⟨a, kvs, rfl, q, _⟩ := h.dict
    rcases q with q | ⟨o, q⟩
    · exact .base (.dK q)
    · exact .fDict q
def dIsi (T : String) (d : D) : Option Rv := (kitB (tyN d) T).map db
theorem xe_isi {T : String} {e : Expr} {x : Str} {f : ME} {p pt pos : Pos} (hg : Gl X "isinstance") (hm : X.mg "isinstance" = none) (hx : Gl X x) (hmx : X.mg x = none) (hv : bootBuiltins x = some (.type T)) (he : XE X f e)
    (hn : x ≠ "__name__" := by decide) (hd : (x == ("__debug__" : Str)) = false := by decide)
    (h1 : starEach [e, .Name x pt] X.env = (false, eval e X.env) :: starEach [.Name x pt] X.env := by rfl) (hpl : (backTo pos (starEach [.Name x pt] X.env)).any (·.1) = false := by rfl) :
    XE X (mU (dIsi T) f) (.Call (.Name "isinstance" p) [e, .Name x pt] [] pos) :=
  pe_weak (pe_callB call_isi hg hm (by decide +kernel) (pa_cons he (pa_cons (pe_bltn hx hmx hv (v := .ty T) rfl hn hd) pa_nil) h1) (he := h1) (hpl := hpl)) fun σ H Q ⟨ρ, O, cs, z, cs', e0, en, w, p⟩ => by
    obtain ⟨r, d, g1, g2, g3⟩ := mU_some e0
    obtain ⟨b, g4, rfl⟩ := Option.map_eq_some_iff.mp g3
    exact ⟨ρ, O, cs, r, cs', g1, en, w, fun v1 H1 c1 w1 r1 => ⟨v1, .ty T, _, _, b, rfl, .ty T, tyX_of (r1.deg.sh w1 g2), kit_ty g4, post_bool w1 (p.step c1 w1)⟩⟩
/-- the names of built-in classes, written -/
def tTys (Ts : List String) : TA := fun _ H Q => Q (Ts.map V.ty) H
theorem pt_nil : PA X [] (tTys []) := pa_nil
theorem pt_cons {T : String} {x : Str} {pt : Pos} {es : List Expr} {Ts : List String} (hx : Gl X x) (hmx : X.mg x = none) (hv : bootBuiltins x = some (.type T)) (hr : PA X es (tTys Ts)) (hn : x ≠ "__name__" := by decide) (hd : (x == ("__debug__" : Str)) = false := by decide)
    (hs : starEach (.Name x pt :: es) X.env = (false, eval (.Name x pt) X.env) :: starEach es X.env := by rfl) : PA X (.Name x pt :: es) (tTys (T :: Ts)) := pa_cons (pe_bltn hx hmx hv (v := .ty T) rfl hn hd) hr hs
def kitA (t : String) : List String → Option Bool
  | [] => some false
  | T :: r => match kitB t T with
    | some true => some true
    | some false => kitA t r
    | none => none
theorem kitA_ok {K : PySem.W.Frag} {t : String} : ∀ {Ts : List String}, PySem.W.kitAny K (.type t) (Ts.map Value.type) = kitA t Ts
  | [] => rfl
  | T :: r => by
    show (match PySem.W.kitOne K (.type t) (.type T) with
      | some true => some true
      | some false => PySem.W.kitAny K (.type t) (r.map Value.type)
      | none => none) = _
    rw [kitA_ok]
    rfl
theorem cls_all : ∀ Ts : List String, Paired ClsV (Ts.map V.ty) (Ts.map Value.type)
  | [] => .nil
  | T :: r => .cons (.ty T) (cls_all r)
def dIsiT (Ts : List String) (d : D) : Option Rv := (kitA (tyN d) Ts).map db
theorem xe_isiT {Ts : List String} {e : Expr} {es : List Expr} {f : ME} {p pt pos : Pos} {k : Nat} (hg : Gl X "isinstance") (hm : X.mg "isinstance" = none) (ht : PA X es (tTys Ts)) (he : XE X f e) (hz : Ts.length ≤ sizeLine := by rw [sizeLine_eq]; decide)
    (h1 : starEach [e, .Tuple es k pt] X.env = (false, eval e X.env) :: starEach [.Tuple es k pt] X.env := by rfl) (h2 : starEach [.Tuple es k pt] X.env = (false, eval (.Tuple es k pt) X.env) :: starEach [] X.env := by rfl) (hpl : (backTo pos (starEach [.Tuple es k pt] X.env)).any (·.1) = false := by rfl) :
    XE X (mU (dIsiT Ts) f) (.Call (.Name "isinstance" p) [e, .Tuple es k pt] [] pos) :=
  pe_weak (pe_callB call_isiT hg hm (by decide +kernel) (pa_cons he (pa_cons (pe_tup ht) pa_nil h2) h1) (he := h1) (hpl := hpl)) fun σ H Q ⟨ρ, O, cs, z, cs', e0, en, w, p⟩ => by
    obtain ⟨r, d, g1, g2, g3⟩ := mU_some e0
    obtain ⟨b, g4, rfl⟩ := Option.map_eq_some_iff.mp g3
    refine ⟨ρ, O, cs, r, cs', g1, en, w, fun v1 H1 c1 w1 r1 => ⟨by simpa using hz, fun q hq => ?_⟩⟩
    have w2 := w1.new (o := .tup (Ts.map V.ty)) hq
    have ar := r1.deg.ch (ch_new (O := O) (o := .tup (Ts.map V.ty)) hq)
    exact ⟨v1, q, Ts.map V.ty, _, Ts.map Value.type, b, rfl, upd_same, cls_all Ts, tyX_of (ar.sh w2 g2), by rw [kitA_ok]; exact g4, post_bool w2 (p.step (c1.trans (ch_new hq)) w2)⟩

/-! calls of built-ins with data -/
def dInt : List D → Option Rv
  | [.int i] => some (di i)
  | [.bool b] => some (di (if b then 1 else 0))
  | _ => none
theorem intCS {K : PySem.W.Frag} : CaS K (fun xs H Q => (∃ i, xs = [.int i] ∧ Q (.int i) H) ∨ ∃ k, xs = [.bl k] ∧ Q (.int (if k then 1 else 0)) H) dInt := by
  intro O cs H vs ds z Q w hp g p
  match ds, g, hp with
  | [.int i], g, hp =>
    obtain ⟨x, rfl, sx⟩ := Paired.one hp
    cases g
    exact .inl ⟨i, by rw [sx.int], post_int w p⟩
  | [.bool b], g, hp =>
    obtain ⟨x, rfl, sx⟩ := Paired.one hp
    cases g
    exact .inr ⟨b, by rw [sx.bool], post_int w p⟩
theorem xe_int1 {e : Expr} {fa : MA} {p pos : Pos} (hg : Gl X "int") (hm : X.mg "int" = none) (ha : XA X fa [e]) (he : starEach [e] X.env = (false, eval e X.env) :: starEach [] X.env := by rfl) : XE X (mCall dInt fa) (.Call (.Name "int" p) [e] [] pos) :=
  xe_callTy call_int1 intCS hg hm (by decide +kernel) ha (he := he)
/-- str of an int below 4300 figures, of a text -/
def rStr : List V → Hp → VK → Prop := fun xs H Q => (∃ i, xs = [.int i] ∧ i.natAbs < 10 ^ 4300 ∧ Q (.str (toString i)) H) ∨ ∃ a, xs = [.str a] ∧ Q (.str a) H
theorem call_strD (rm : Rm X) : CallR X (.type "str") rStr := by
  intro pins s σ H xs us Q I r h
  rcases h with ⟨i, rfl, hz, q⟩ | ⟨a, rfl, q⟩
  · obtain ⟨u, rfl, t, rfl⟩ := vals1 r
    have nd : s.heap.NoDigits := rm.nd.keeps fun a o e => (I.bk a o e)
    exact str_of_int_or (I.ok.hd rm.calm) nd (fun _ => ⟨.str _, H, I.tok _, ⟨_, rfl⟩, q⟩) fun hge => absurd hz (Nat.not_lt.mpr hge)
  · obtain ⟨u, rfl, t, rfl⟩ := vals1 r
    exact PySem.P.str_of_str ⟨.str a, H, I, ⟨t, rfl⟩, q⟩
def dStr : List D → Option Rv
  | [.int i] => if i.natAbs < 10 ^ 4300 then some (.dat (.str (Str.ofString (toString i)))) else none
  | [.str x] => some (.dat (.str x))
  | _ => none
theorem strCS {K : PySem.W.Frag} : CaS K rStr dStr := by
  intro O cs H vs ds z Q w hp g p
  match ds, g, hp with
  | [.int i], g, hp =>
    obtain ⟨x, rfl, sx⟩ := Paired.one hp
    obtain ⟨hz, rfl⟩ := ite_some g
    exact .inl ⟨i, by rw [sx.int], hz, post_str w (PySem.int_text_fits10 hz) p⟩
  | [.str y], g, hp =>
    obtain ⟨x, rfl, sx⟩ := Paired.one hp
    cases g
    obtain ⟨rfl, hz⟩ := sx.str
    exact .inr ⟨y, rfl, post_str w hz p⟩
theorem xe_str1 {e : Expr} {fa : MA} {p pos : Pos} (rm : Rm X) (hg : Gl X "str") (hm : X.mg "str" = none) (ha : XA X fa [e]) (he : starEach [e] X.env = (false, eval e X.env) :: starEach [] X.env := by rfl) : XE X (mCall dStr fa) (.Call (.Name "str" p) [e] [] pos) :=
  xe_callTy (call_strD rm) strCS hg hm (by decide +kernel) ha (he := he)
/-- list(..) of a list, a tuple, a text -/
theorem CallR.or {f : Value} {r r' : List V → Hp → VK → Prop} (h : CallR X f r) (h' : CallR X f r') : CallR X f (fun xs H Q => r xs H Q ∨ r' xs H Q) := fun pins s σ H xs us Q I rv q => by
  rcases q with q | q
  · exact h pins s σ H xs us Q I rv q
  · exact h' pins s σ H xs us Q I rv q
def charsV (x : Str) : List V := x.cps.toList.map fun c => .str ⟨#[c]⟩
def charsD (x : Str) : List D := x.cps.toList.map fun c => .str ⟨#[c]⟩
theorem chars_rp {K : PySem.W.Frag} {H : Hp} (x : Str) : RpAll K H (charsV x) (charsD x) := by
  unfold charsV charsD
  induction x.cps.toList with
  | nil => exact .nil
  | cons c r ih => exact .cons (.str _ (one_sign c)) ih
theorem vals_ix : ∀ {xs : List V} {us : List Value}, us.length = xs.length → (∀ (j : Nat) (u : Value), us[j]? = some u → ∃ x, xs[j]? = some x ∧ RelV x u) → Vals xs us
  | [], [], _, _ => .nil
  | [], _ :: _, h, _ => by simp at h
  | _ :: _, [], h, _ => by simp at h
  | x :: xs, u :: us, h, k => by
    obtain ⟨y, e, r⟩ := k 0 u rfl
    have e' : x = y := Option.some.inj e
    subst e'
    exact .cons r (vals_ix (Nat.succ.inj h) fun j v hv => k (j + 1) v hv)
theorem call_list_tx (rm : Rm X) : CallR X (.type "list") (fun xs H Q => ∃ x, xs = [.str x] ∧ x.length ≤ sizeLine ∧ ∀ l, H l = none → Q (.ref l) (upd H l (.lst (charsV x)))) := by
  intro pins s σ H xs us Q I r h
  obtain ⟨x, rfl, hz, q⟩ := h
  obtain ⟨u, rfl, t, rfl⟩ := vals1 r
  have hl : (charsV x).length = x.cps.size := by simp [charsV]
  refine call_list_str (I.ok.hd rm.calm) x t (hn := hz) fun h' tk acc' c' hk hS' hacc => ?_
  refine ⟨.ref s.heap.objs.size, upd H s.heap.objs.size (.lst (charsV x)), I.laid hk (Nat.le_refl _) (show ObjOk X.prog X.w _ _ _ (.lst (charsV x)) from ⟨by rw [hl]; exact hz, acc'.toList, c', vals_ix (by rw [hl]; simpa using hacc.1) fun j u hu => ?_, ?_⟩), rfl, q _ (I.hok.fresh (Nat.le_refl _))⟩
  · obtain ⟨c, t', hc, rfl⟩ := hacc.2 j u (by simpa using hu)
    exact ⟨.str ⟨#[c]⟩, by simp [charsV, hc], t', rfl⟩
  · rw [Array.toArray_toList]; exact hS'
def dList : List D → Option Rv
  | [.list ds] => some (.fr ds)
  | [.tuple ds] => some (.fr ds)
  | [.str x] => some (.fr (charsD x))
  | _ => none
def rListD (K : PySem.W.Frag) : List V → Hp → VK → Prop := fun xs H Q => (∃ p ys, xs = [.ref p] ∧ (SqL K H p ys ∨ SqT K H p ys) ∧ ∀ l, H l = none → Q (.ref l) (upd H l (.lst ys))) ∨ ∃ x, xs = [.str x] ∧ x.length ≤ sizeLine ∧ ∀ l, H l = none → Q (.ref l) (upd H l (.lst (charsV x)))
theorem listCS {K : PySem.W.Frag} : CaS K (rListD K) dList := by
  intro O cs H vs ds z Q w hp g p
  match ds, g, hp with
  | [.list ds], g, hp =>
    obtain ⟨x, rfl, sx⟩ := Paired.one hp
    cases g
    obtain ⟨a, vs, rfl, q, r⟩ := sx.list
    exact .inl ⟨a, vs, rfl, .inl q.sq, post_list w r p⟩
  | [.tuple ds], g, hp =>
    obtain ⟨x, rfl, sx⟩ := Paired.one hp
    cases g
    obtain ⟨a, vs, rfl, q, r⟩ := sx.tuple
    exact .inl ⟨a, vs, rfl, .inr (.inl q), post_list w r p⟩
  | [.str y], g, hp =>
    obtain ⟨x, rfl, sx⟩ := Paired.one hp
    cases g
    obtain ⟨rfl, hz⟩ := sx.str
    exact .inr ⟨y, rfl, hz, post_list w (chars_rp y) p⟩
theorem xe_list1 {e : Expr} {fa : MA} {p pos : Pos} (rm : Rm X) (hg : Gl X "list") (hm : X.mg "list" = none) (ha : XA X fa [e]) (he : starEach [e] X.env = (false, eval e X.env) :: starEach [] X.env := by rfl) : XE X (mCall dList fa) (.Call (.Name "list" p) [e] [] pos) :=
  xe_callTy (CallR.or call_list_of (call_list_tx rm)) listCS hg hm (by decide +kernel) ha (he := he)
/-- tuple(..) of a list, a tuple -/
def dTuple : List D → Option Rv
  | [.list ds] => some (.dat (.tuple ds))
  | [.tuple ds] => some (.dat (.tuple ds))
  | _ => none
theorem tupleCS {K : PySem.W.Frag} : CaS K (fun xs H Q => ∃ p ys, xs = [.ref p] ∧ ((SqL K H p ys ∧ ∀ l, H l = none → Q (.ref l) (upd H l (.tup ys))) ∨ (SqT K H p ys ∧ Q (.ref p) H))) dTuple := by
  intro O cs H vs ds z Q w hp g p
  match ds, g, hp with
  | [.list ds], g, hp =>
    obtain ⟨x, rfl, sx⟩ := Paired.one hp
    cases g
    obtain ⟨a, vs, rfl, q, r⟩ := sx.list
    exact ⟨a, vs, rfl, .inl ⟨q.sq, post_tup w r p⟩⟩
  | [.tuple ds], g, hp =>
    obtain ⟨x, rfl, sx⟩ := Paired.one hp
    cases g
    have sx' := sx
    obtain ⟨a, vs, rfl, q, r⟩ := sx.tuple
    rcases sx' with sx' | ⟨_, _, _, _, h, _⟩
    · exact ⟨a, vs, rfl, .inr ⟨.inl q, post_val w sx' p⟩⟩
    · cases h
theorem xe_tuple1 {e : Expr} {fa : MA} {p pos : Pos} (hg : Gl X "tuple") (hm : X.mg "tuple" = none) (ha : XA X fa [e]) (he : starEach [e] X.env = (false, eval e X.env) :: starEach [] X.env := by rfl) : XE X (mCall dTuple fa) (.Call (.Name "tuple" p) [e] [] pos) :=
  xe_callTy call_tuple_of tupleCS hg hm (by decide +kernel) ha (he := he)
/-- abs, max, min of two ints, sum of ints -/
def dAbs : List D → Option Rv
  | [.int i] => some (di (if i < 0 then -i else i))
  | _ => none
theorem absCS {K : PySem.W.Frag} : CaS K (fun xs H Q => ∃ i, xs = [.int i] ∧ Q (.int (if i < 0 then -i else i)) H) dAbs := by
  intro O cs H vs ds z Q w hp g p
  match ds, g, hp with
  | [.int i], g, hp =>
    obtain ⟨x, rfl, sx⟩ := Paired.one hp
    cases g
    exact ⟨i, by rw [sx.int], post_int w p⟩
theorem xe_abs {e : Expr} {fa : MA} {p pos : Pos} (hg : Gl X "abs") (hm : X.mg "abs" = none) (ha : XA X fa [e]) (he : starEach [e] X.env = (false, eval e X.env) :: starEach [] X.env := by rfl) : XE X (mCall dAbs fa) (.Call (.Name "abs" p) [e] [] pos) :=
  xe_callB call_abs absCS hg hm (by decide +kernel) ha (he := he)
def dMax2 : List D → Option Rv
  | [.int i, .int j] => some (di (if j > i then j else i))
  | _ => none
def dMin2 : List D → Option Rv
  | [.int i, .int j] => some (di (if j < i then j else i))
  | _ => none
theorem max2CS {K : PySem.W.Frag} : CaS K (fun xs H Q => ∃ i j, xs = [.int i, .int j] ∧ Q (.int (if j > i then j else i)) H) dMax2 := by
  intro O cs H vs ds z Q w hp g p
  match ds, g, hp with
  | [.int i, .int j], g, hp =>
    obtain ⟨x, y, rfl, sx, sy⟩ := Paired.two hp
    cases g
    exact ⟨i, j, by rw [sx.int, sy.int], post_int w p⟩
theorem min2CS {K : PySem.W.Frag} : CaS K (fun xs H Q => ∃ i j, xs = [.int i, .int j] ∧ Q (.int (if j < i then j else i)) H) dMin2 := by
  intro O cs H vs ds z Q w hp g p
  match ds, g, hp with
  | [.int i, .int j], g, hp =>
    obtain ⟨x, y, rfl, sx, sy⟩ := Paired.two hp
    cases g
    exact ⟨i, j, by rw [sx.int, sy.int], post_int w p⟩
theorem xe_max2 {e e2 : Expr} {fa : MA} {p pos : Pos} (rm : Rm X) (hg : Gl X "max") (hm : X.mg "max" = none) (ha : XA X fa [e, e2]) (he : starEach [e, e2] X.env = (false, eval e X.env) :: starEach [e2] X.env := by rfl) (hpl : (backTo pos (starEach [e2] X.env)).any (·.1) = false := by rfl) : XE X (mCall dMax2 fa) (.Call (.Name "max" p) [e, e2] [] pos) :=
  xe_callB (call_max2 rm.calm) max2CS hg hm (by decide +kernel) ha (he := he) (hpl := hpl)
theorem xe_min2 {e e2 : Expr} {fa : MA} {p pos : Pos} (rm : Rm X) (hg : Gl X "min") (hm : X.mg "min" = none) (ha : XA X fa [e, e2]) (he : starEach [e, e2] X.env = (false, eval e X.env) :: starEach [e2] X.env := by rfl) (hpl : (backTo pos (starEach [e2] X.env)).any (·.1) = false := by rfl) : XE X (mCall dMin2 fa) (.Call (.Name "min" p) [e, e2] [] pos) :=
  xe_callB (call_min2 rm.calm) min2CS hg hm (by decide +kernel) ha (he := he) (hpl := hpl)
def intsD : List D → Option (List Int)
  | [] => some []
  | .int i :: r => (intsD r).map fun is => i :: is
  | _ => none
theorem intsD_v {K : PySem.W.Frag} {H : Hp} : ∀ {ds : List D} {vs : List V} {is : List Int}, RpAll K H vs ds → intsD ds = some is → vs = is.map V.int
  | [], vs, is, r, e => by cases r; cases e; rfl
  | .int i :: ds, vs, is, r, e => by
    obtain ⟨js, h1, h2⟩ := Option.map_eq_some_iff.mp e
    subst h2
    cases r with
    | cons a t =>
      cases a
      rw [intsD_v t h1]; rfl
  | .none :: _, _, _, _, e => by cases e
  | .bool _ :: _, _, _, _, e => by cases e
  | .str _ :: _, _, _, _, e => by cases e
  | .list _ :: _, _, _, _, e => by cases e
  | .tuple _ :: _, _, _, _, e => by cases e
  | .dict _ :: _, _, _, _, e => by cases e
def dSum : List D → Option Rv
  | [.list ds] => (intsD ds).map fun is => di is.sum
  | _ => none
theorem sumCS {K : PySem.W.Frag} : CaS K (rSum K) dSum := by
  intro O cs H vs ds z Q w hp g p
  match ds, g, hp with
  | [.list ds], g, hp =>
    obtain ⟨x, rfl, sx⟩ := Paired.one hp
    obtain ⟨is, h1, rfl⟩ := Option.map_eq_some_iff.mp g
    obtain ⟨a, vs, rfl, q, r⟩ := sx.list
    have e := intsD_v r h1
    subst e
    exact ⟨a, is, rfl, q.sq, post_int w p⟩
theorem xe_sum {e : Expr} {fa : MA} {p pos : Pos} (rm : Rm X) (hg : Gl X "sum") (hm : X.mg "sum" = none) (ha : XA X fa [e]) (he : starEach [e] X.env = (false, eval e X.env) :: starEach [] X.env := by rfl) : XE X (mCall dSum fa) (.Call (.Name "sum" p) [e] [] pos) :=
  xe_callB (cr_sum rm.calm) sumCS hg hm (by decide +kernel) ha (he := he)
end
end DL
namespace DL
open PySem PySem.Spec PyProof.Rows L2
section
variable {X : Cx}
/-! repr -/
def scal : D → Bool
  | .none | .bool _ | .int _ | .str _ => true
  | _ => false
def flatD : D → Bool
  | .dict kvs => kvs.all fun p => scal p.1 && scal p.2
  | d => !d.hasDict
def rOk (d : D) : Bool := d.showable && flatD d && decide (d.depth ≤ 100) && decide (d.shown.length ≤ sizeLine)
theorem reads_scal {h : Heap} : ∀ {us : List Value} {ds : List D} {as : List Addr}, ReadsAll h us ds as → (∀ d ∈ ds, scal d = true) → as = []
  | _, _, _, .nil, _ => rfl
  | _, _, _, .cons (d := d) a r, q => by
    have h1 := q _ (List.mem_cons_self ..)
    have h2 := reads_scal r fun d hd => q d (List.mem_cons_of_mem _ hd)
    subst h2
    cases a <;> first | rfl | cases h1
def rReprD (K : PySem.W.Frag) : List V → Hp → VK → Prop := fun xs H Q => ∃ x d, xs = [x] ∧ Rp K H x d ∧ rOk d = true ∧ Q (.str d.shown) H
theorem call_reprD (rm : Rm X) : CallR X (.builtin "repr") (rReprD X.K) := by
  intro pins s σ H xs us Q I r h
  obtain ⟨x, d, rfl, rx, ok, q⟩ := h
  unfold rOk at ok
  simp only [Bool.and_eq_true, decide_eq_true_eq] at ok
  obtain ⟨⟨⟨o1, o2⟩, o3⟩, o4⟩ := ok
  have go : ∀ (a : Addr), x = .ref a → wpAny (model X.prog X.w) X.A (call (.builtin "repr") us) (EP X pins σ Q) X.xe s := by
    intro a ea
    subst ea
    obtain ⟨u, rfl, ru⟩ := vals1 r
    obtain ⟨as, rd⟩ := Rp.reads I rx _ ru
    cases ru
    refine repr_of_reads' (h₀ := s.heap) rd o1 (fun hd => ?_) rm.gd (by have := rm.un; omega) (fun _ _ e => e) (fun h' u tk k => ⟨.str _, H, I.kept k, ⟨_, rfl⟩, q⟩) o4
    cases rx with
    | lst _ _ => rw [show flatD (.list _) = !(PyData.hasDict (.list _)) from rfl, hd] at o2; cases o2
    | tup _ _ => rw [show flatD (.tuple _) = !(PyData.hasDict (.tuple _)) from rfl, hd] at o2; cases o2
    | dct qd e b =>
      obtain ⟨_, hS, _⟩ := dk_rd I.hok (.inr ⟨_, qd⟩)
      have sc := List.all_eq_true.mp (show List.all _ _ = true from o2)
      cases rd with
      | dict g1 g2 g3 g4 g5 =>
        have e1 := reads_scal g4 (by
          intro d hd
          obtain ⟨p, hp, rfl⟩ := List.mem_map.mp hd
          have := sc p hp
          simp only [Bool.and_eq_true] at this
          exact this.1)
        have e2 := reads_scal g5 (by
          intro d hd
          obtain ⟨p, hp, rfl⟩ := List.mem_map.mp hd
          have := sc p hp
          simp only [Bool.and_eq_true] at this
          exact this.2)
        subst e1 e2
        simpa using Ne.symm (beq_eq_false_iff_ne.mp hS)
  cases rx with
  | non =>
    obtain ⟨u, rfl, ru⟩ := vals1 r
    cases ru
    exact PySem.P.repr_of_none ⟨.str _, H, I.tok _, ⟨_, rfl⟩, q⟩
  | bl b =>
    obtain ⟨u, rfl, ru⟩ := vals1 r
    cases ru
    exact PySem.P.repr_of_bool ⟨.str _, H, I.tok _, ⟨_, rfl⟩, q⟩
  | int i =>
    obtain ⟨u, rfl, t, rfl⟩ := vals1 r
    exact PySem.P.repr_of_int (by simpa [PyData.showable] using o1) ⟨.str _, H, I.tok _, ⟨_, rfl⟩, q⟩
  | str y hz =>
    obtain ⟨u, rfl, t, rfl⟩ := vals1 r
    exact PySem.P.repr_of_str ⟨.str _, H, I.tok _, ⟨_, rfl⟩, q⟩ o4
  | lst _ _ => exact go _ rfl
  | tup _ _ => exact go _ rfl
  | dct _ _ _ => exact go _ rfl
def dRepr : List D → Option Rv
  | [d] => if rOk d = true then some (.dat (.str d.shown)) else none
  | _ => none
theorem reprCS {K : PySem.W.Frag} : CaS K (rReprD K) dRepr := by
  intro O cs H vs ds z Q w hp g p
  match ds, g, hp with
  | [d], g, hp =>
    obtain ⟨x, rfl, sx⟩ := Paired.one hp
    obtain ⟨hz, rfl⟩ := ite_some g
    refine ⟨x, d, rfl, sx.rp, hz, post_str w ?_ p⟩
    unfold rOk at hz
    simp only [Bool.and_eq_true, decide_eq_true_eq] at hz
    exact hz.2
theorem xe_repr {e : Expr} {fa : MA} {p pos : Pos} (rm : Rm X) (hg : Gl X "repr") (hm : X.mg "repr" = none) (ha : XA X fa [e]) (he : starEach [e] X.env = (false, eval e X.env) :: starEach [] X.env := by rfl) : XE X (mCall dRepr fa) (.Call (.Name "repr" p) [e] [] pos) :=
  xe_callB (call_reprD rm) reprCS hg hm (by decide +kernel) ha (he := he)

/-! sorted -/
def nTup : D → Bool
  | .tuple (_ :: _) => true
  | _ => false
def nOth : D → Bool
  | .tuple _ => false
  | .none => false
  | _ => true
def sOk (ds : List D) : Bool := ds.all (fun d => ds.all fun e => PySem.W.alike d e) && (ds.all nTup || ds.all nOth) && ds.all (fun d => decide (d.depth ≤ 100))
def srt (ds : List D) : List D := ds.mergeSort (PySem.W.dataLe false id)
def rSortedD (K : PySem.W.Frag) : List V → Hp → VK → Prop := fun xs H Q => ∃ (R : V → D → Prop) (a : Addr) (vs : List V) (ds : List D), xs = [.ref a] ∧ SqL K H a vs ∧ Paired (fun v d => Rp K H v d ∧ R v d) vs ds ∧ sOk ds = true ∧
  ∀ p ws, H p = none → Paired R ws (srt ds) → Q (.ref p) (upd H p (.lst ws))
theorem each_of {R : V → D → Prop} : ∀ {ws : List Value} {ds : List D}, PySem.W.EachIs (fun u d => ∃ v, RelV v u ∧ R v d) ws ds → ∃ vs, Vals vs ws ∧ Paired R vs ds
  | _, _, .nil => ⟨[], .nil, .nil⟩
  | _, _, .cons a r => by
    obtain ⟨v, h1, h2⟩ := a
    obtain ⟨vs, q1, q2⟩ := each_of r
    exact ⟨v :: vs, .cons h1 q1, .cons h2 q2⟩
theorem call_sortedD' (rm : Rm X) : CallR X (.builtin "sorted") (rSortedD X.K) := by
  intro pins s σ H xs us Q I r h
  obtain ⟨R, a, vs, ds, rfl, hs, hp, ok, q⟩ := h
  unfold sOk at ok
  simp only [Bool.and_eq_true, Bool.or_eq_true] at ok
  obtain ⟨⟨o1, o2⟩, o3⟩ := ok
  obtain ⟨its, rv, ⟨o, n, ho, hc, _, hd⟩, hz⟩ := I.list hs
  rw [Vals.ref1 r]
  have hl : vs.length = ds.length := by
    clear q rv hz o1 o2 o3 hs
    induction hp with
    | nil => rfl
    | cons _ _ ih => simp [ih]
  have e1 : PySem.W.EachIs (fun u d => (∃ v, RelV v u ∧ R v d) ∧ ∃ as, Reads s.heap u d as) its ds := by
    clear q hz o1 o2 o3 hs hl hd
    induction hp generalizing its with
    | nil => cases rv; exact .nil
    | cons b _ ih =>
      cases rv with
      | cons r1 r2 =>
        exact .cons ⟨⟨_, r1, b.2⟩, Rp.reads I b.1 _ r1⟩ (ih _ r2)
  have h0 := PySem.W.sorted_data (prog := X.prog) (w := X.w) (A := X.A) (E := X.xe) (R := fun u d => ∃ v, RelV v u ∧ R v d) (enc := id) (bs := ds) (vs := its) (l := a) (s := s) (Q := EP X pins σ Q) ⟨o, ho, hc, n, hd⟩
    (e1.mono fun _ _ z => z.1) (e1.mono fun _ _ z => z.2) (by
      rw [List.map_id]
      intro d hd d' hd'
      exact List.all_eq_true.mp (List.all_eq_true.mp o1 d hd) d' hd') (by
      rw [List.map_id]
      rcases o2 with o2 | o2
      · refine .inl fun d hd => ?_
        have := List.all_eq_true.mp o2 d hd
        cases d with
        | tuple l => cases l with
          | nil => cases this
          | cons x r => exact ⟨x, r, rfl⟩
        | _ => cases this
      · refine .inr fun d hd => ?_
        have := List.all_eq_true.mp o2 d hd
        cases d with
        | tuple l => cases this
        | none => cases this
        | _ => exact ⟨fun z => PyData.noConfusion z, fun _ z => PyData.noConfusion z⟩) (by rw [← hl]; exact hz) (fun b hb => by
      have := of_decide_eq_true (List.all_eq_true.mp o3 b hb)
      have := rm.un
      show _ + 2 + b.depth < _
      omega)
  refine h0 fun out ho1 ho2 => ?_
  obtain ⟨ws, v1, v2⟩ := each_of ho2
  obtain ⟨ep, he'⟩ := PyProof.Rows.sortedAll_at s.heap its out.toArray
  exact ⟨.ref _, upd H (s.heap.objs.size + 1) (.lst ws), I.laid (t' := s.toks) (fun _ _ => PyProof.Rows.sortedAll_old) (Nat.le_succ _) ⟨by rw [v1.length, ho1, ← hl]; exact hz, out, ep, v1, he'⟩, rfl, q _ _ (I.hok.fresh (Nat.le_succ _)) v2⟩
def dSorted : List D → Option Rv
  | [.list ds] => if sOk ds = true then some (.fr (srt ds)) else none
  | _ => none
theorem paired_rp {K : PySem.W.Frag} {H H' : Hp} : ∀ {vs : List V} {ds : List D}, RpAll K H vs ds → (∀ {v d}, Rp K H v d → Rp K H' v d) → Paired (fun v d => Rp K H' v d ∧ Rp K H v d) vs ds
  | _, _, .nil, _ => .nil
  | _, _, .cons a r, h => .cons ⟨h a, a⟩ (paired_rp r h)
theorem rp_paired {K : PySem.W.Frag} {H : Hp} : ∀ {vs : List V} {ds : List D}, Paired (Rp K H) vs ds → RpAll K H vs ds
  | _, _, .nil => .nil
  | _, _, .cons a r => .cons a (rp_paired r)
theorem sortedCS {K : PySem.W.Frag} : CaS K (rSortedD K) dSorted := by
  intro O cs H vs ds z Q w hp g p
  match ds, g, hp with
  | [.list ds], g, hp =>
    obtain ⟨x, rfl, sx⟩ := Paired.one hp
    obtain ⟨hz, rfl⟩ := ite_some g
    obtain ⟨a, vs, rfl, q, r⟩ := sx.list
    exact ⟨Rp K (hd O H), a, vs, ds, rfl, q.sq, paired_rp r (fun h => h.mono hd_le), hz, fun b ws hb hw => post_list w (rp_paired hw) p b hb⟩
theorem xe_sorted {e : Expr} {fa : MA} {p pos : Pos} (rm : Rm X) (hg : Gl X "sorted") (hm : X.mg "sorted" = none) (ha : XA X fa [e]) (he : starEach [e] X.env = (false, eval e X.env) :: starEach [] X.env := by rfl) : XE X (mCall dSorted fa) (.Call (.Name "sorted" p) [e] [] pos) :=
  xe_callB (call_sortedD' rm) sortedCS hg hm (by decide +kernel) ha (he := he)

/-! str.join, bit_length -/
def strsD : List D → Option (List Str)
  | [] => some []
  | .str i :: r => (strsD r).map fun is => i :: is
  | _ => none
theorem strsD_v {K : PySem.W.Frag} {H : Hp} : ∀ {ds : List D} {vs : List V} {is : List Str}, RpAll K H vs ds → strsD ds = some is → vs = is.map V.str
  | [], vs, is, r, e => by cases r; cases e; rfl
  | .str i :: ds, vs, is, r, e => by
    obtain ⟨js, h1, h2⟩ := Option.map_eq_some_iff.mp e
    subst h2
    cases r with
    | cons a t =>
      cases a
      rw [strsD_v t h1]; rfl
  | .none :: _, _, _, _, e => by cases e
  | .bool _ :: _, _, _, _, e => by cases e
  | .int _ :: _, _, _, _, e => by cases e
  | .list _ :: _, _, _, _, e => by cases e
  | .tuple _ :: _, _, _, _, e => by cases e
  | .dict _ :: _, _, _, _, e => by cases e
def joinOk (a : Str) (ys : List Str) : Bool := decide ((ys.map (·.length)).sum + ys.length * a.length ≤ 16777216) && decide ((Txt.join a ys).length ≤ sizeLine)
def dJoin : D → D → Option Rv
  | .str a, .list ds => (strsD ds).bind fun ys => if joinOk a ys = true then some (.dat (.str (Txt.join a ys))) else none
  | .str a, .tuple ds => (strsD ds).bind fun ys => if joinOk a ys = true then some (.dat (.str (Txt.join a ys))) else none
  | _, _ => none
/-- a text's method with one argument -/
def M1S (K : PySem.W.Frag) (r : V → List V → Hp → VK → Prop) (g : D → D → Option Rv) : Prop := ∀ (O : List (Option Addr)) (cs : Cs) (H : Hp) (x y : V) (d e : D) (z : Rv) (Q : VK), Wd K O cs H → Sh K O H x d → Sh K O H y e → g d e = some z → PostX K O H z cs Q → (∃ a, x = .str a) ∧ r x [y] H Q
theorem joinS {K : PySem.W.Frag} : M1S K (fun x xs H Q => ∃ a p, ∃ ys : List Str, x = .str a ∧ xs = [.ref p] ∧ (SqL K H p (ys.map V.str) ∨ SqT K H p (ys.map V.str)) ∧
      (ys.map (·.length)).sum + ys.length * a.length ≤ 16777216 ∧ Q (.str (Txt.join a ys)) H) dJoin := by
  intro O cs H x y d e z Q w sx sy g p
  have fin : ∀ {a : Str} {ys : List Str}, (if joinOk a ys = true then some (Rv.dat (.str (Txt.join a ys))) else none) = some z → (ys.map (·.length)).sum + ys.length * a.length ≤ 16777216 ∧ Q (.str (Txt.join a ys)) H := fun {a ys} g => by
    obtain ⟨hz, rfl⟩ := ite_some g
    unfold joinOk at hz
    simp only [Bool.and_eq_true, decide_eq_true_eq] at hz
    exact ⟨hz.1, post_str w hz.2 p⟩
  cases d with
  | str a =>
    obtain ⟨rfl, _⟩ := sx.str
    cases e with
    | list ds =>
      obtain ⟨ys, h1, g⟩ := Option.bind_eq_some_iff.mp g
      obtain ⟨b, vs, rfl, q, r⟩ := sy.list
      have e := strsD_v r h1
      subst e
      exact ⟨⟨a, rfl⟩, a, b, ys, rfl, rfl, .inl q.sq, fin g⟩
    | tuple ds =>
      obtain ⟨ys, h1, g⟩ := Option.bind_eq_some_iff.mp g
      obtain ⟨b, vs, rfl, q, r⟩ := sy.tuple
      have e := strsD_v r h1
      subst e
      exact ⟨⟨a, rfl⟩, a, b, ys, rfl, rfl, .inr (.inl q), fin g⟩
    | _ => cases g
  | _ => cases g
/-- evaluated before: the receiver must be a text at once -/
def mM1 (g : D → D → Option Rv) (fa fb : ME) : ME := fun ρ cs => (fa ρ cs).bind fun p => match p.1 with
  | .dat (.str a) => (fb ρ p.2).bind fun q => (rd (deg q.1) q.2).bind fun e => (g (.str a) e).map fun z => (z, q.2)
  | _ => none
theorem tM1_of {K : PySem.W.Frag} {r : V → List V → Hp → VK → Prop} {g : D → D → Option Rv} {fa fb : ME} (hs : M1S K r g) {σ : L2.St} {H : Hp} {Q : VK} (h : tX K (mM1 g fa fb) σ H Q) : tM1 r (tX K fa) (tX K fb) σ H Q := by
  obtain ⟨ρ, O, cs, z, cs', e, en, w, p⟩ := h
  obtain ⟨⟨x, cs1⟩, h1, e⟩ := Option.bind_eq_some_iff.mp e
  dsimp only at e
  split at e
  · rename_i a
    obtain ⟨⟨y, cs2⟩, h2, e⟩ := Option.bind_eq_some_iff.mp e
    obtain ⟨ye, h3, e⟩ := Option.bind_eq_some_iff.mp e
    obtain ⟨z', h4, e⟩ := Option.map_eq_some_iff.mp e
    cases e
    refine ⟨ρ, O, cs, _, cs1, h1, en, w, fun v1 H1 c1 w1 r1 => ?_⟩
    have e1 := (Sh.str (.inl r1 : Sh K O H1 v1 (.str a))).1
    refine ⟨⟨a, e1⟩, ρ, O, cs1, y, cs2, h2, en.ch c1, w1, fun v2 H2 c2 w2 r2 => ?_⟩
    exact (hs O cs2 H2 v1 v2 (.str a) ye _ Q w2 (.inl (Rp.mono c2.data r1)) (r2.deg.sh w2 h3) h4 (p.step (c1.trans c2) w2)).2
  · cases e
theorem xe_join {o e : Expr} {fa fb : ME} {apos pos : Pos} (ho : XE X fa o) (he : XE X fb e) (hs : starEach [e] X.env = [(false, eval e X.env)] := by rfl) (hbase : attributeBase o "join" X.env (eval o X.env) = eval o X.env := by rfl) (hline : (apos.endLine == pos.line) = true := by rfl) :
    XE X (mM1 dJoin fa fb) (.Call (.Attribute o "join" apos) [e] [] pos) := pe_weak (pe_join ho he hs hbase hline) fun σ H Q h => tM1_of joinS h
def dBits : D → Option Rv
  | .int i => some (di (Builtin.Int.intBits i : Nat))
  | _ => none
theorem xe_bits {o : Expr} {fa : ME} {apos pos : Pos} (ho : XE X fa o) (hbase : attributeBase o "bit_length" X.env (eval o X.env) = eval o X.env := by rfl) (hline : (apos.endLine == pos.line) = true := by rfl) : XE X (mU dBits fa) (.Call (.Attribute o "bit_length" apos) [] [] pos) :=
  pe_weak (pe_bits ho hbase hline) fun σ H Q ⟨ρ, O, cs, z, cs', e, en, w, p⟩ => by
    obtain ⟨x, d, h1, h2, h3⟩ := mU_some e
    refine ⟨ρ, O, cs, x, cs', h1, en, w, fun v1 H1 c1 w1 r1 => ?_⟩
    have sx := r1.deg.sh w1 h2
    cases d with
    | int i =>
      cases h3
      exact ⟨i, sx.int, post_int w1 (p.step c1 w1)⟩
    | _ => cases h3
end
end DL
namespace DL
open PySem PySem.Spec PyProof.Rows L2
section
variable {X : Cx}
/-! dicts: locked as soon as they are made -/
def lockQ (Q : VK) : VK := fun v H' => ∃ p kvs, v = .ref p ∧ H' p = some (.dK kvs) ∧ ∀ od, Q v (upd H' p (.frz od (.dK kvs)))
theorem ep_lock {pins : List (Addr × Obj)} {σ : L2.St} {Q : VK} {u : Value} {s : Shared} (h : EP X pins σ (lockQ Q) u s) : EP X pins σ Q u s := by
  obtain ⟨v, H', I, r, p, kvs, rfl, e, q⟩ := h
  obtain ⟨od, I2⟩ := I.lock e trivial
  exact ⟨_, _, I2, r, q od⟩
theorem pe_lockQ {e : Expr} {t : TE} (h : PE X e t) : PE X e (fun σ H Q => t σ H (lockQ Q)) := ⟨fun pins s σ H Q I q => thn (h.run pins s σ H _ I q) fun u s1 z => ep_lock z⟩
theorem callR_lockQ {f : Value} {r : List V → Hp → VK → Prop} (h : CallR X f r) : CallR X f (fun xs H Q => r xs H (lockQ Q)) := fun pins s σ H xs us Q I rv q => thn (h pins s σ H xs us _ I rv q) fun u s1 z => ep_lock z
theorem post_dict {K : PySem.W.Frag} {O : List (Option Addr)} {cs : Cs} {H : Hp} {Q : VK} {kvs : List (Key × V)} {ds : List (D × D)} (w : Wd K O cs H) (e : kvs.map (fun p => kD p.1) = ds.map (·.1)) (r : RpAll K (hd O H) (kvs.map (·.2)) (ds.map (·.2))) (h : PostX K O H (.dat (.dict ds)) cs Q) :
    ∀ p, H p = none → lockQ Q (.ref p) (upd H p (.dK kvs)) := fun p hp => by
  refine ⟨p, kvs, rfl, upd_same, fun od => ?_⟩
  have e2 : upd (upd H p (.dK kvs)) p (.frz od (.dK kvs)) = upd H p (.frz od (.dK kvs)) := by
    funext a
    by_cases c : a = p
    · subst c; rw [upd_same, upd_same]
    · rw [upd_ne c, upd_ne c, upd_ne c]
  rw [e2]
  exact h _ _ (ch_new hp) (w.new hp) (.dct (hd_of (w.fresh hp) upd_same) e (r.mono (ch_new hp).data))
/-! displays of constants -/
theorem xe_dict0 {pos : Pos} : XE X (xC (.dict [])) (.Dict [] [] pos) := pe_weak (pe_lockQ pe_dnewK) fun σ H Q ⟨ρ, O, cs, r', cs', e, en, w, p⟩ => by
  cases e
  exact post_dict (kvs := []) w rfl .nil p
theorem tPairs_c {σ : L2.St} {H : Hp} {Q : List (V × V) → Hp → Prop} : ∀ {kvs : List (Key × V)} {Q : List (V × V) → Hp → Prop}, Q (kvs.map fun p => (kV p.1, p.2)) H → tPairs (kvs.map fun p => (tC (kV p.1), tC p.2)) σ H Q
  | [], _, q => q
  | kv :: r, Q, q => by
    show tC (kV kv.1) σ H fun x H1 => tC kv.2 σ H1 fun y H2 => tPairs _ σ H2 fun ps H3 => Q ((x, y) :: ps) H3
    exact tPairs_c (kvs := r) (Q := fun ps H3 => Q ((kV kv.1, kv.2) :: ps) H3) q
theorem merge_nodup : ∀ {kvs acc : List (Key × V)}, ((acc ++ kvs).map (·.1)).Nodup → mergeK acc kvs = acc ++ kvs
  | [], acc, _ => (List.append_nil acc).symm
  | kv :: r, acc, h => by
    have hk : (acc.any fun p => decide (p.1 = kv.1)) = false := by
      rw [List.any_eq_false]
      intro p hp hq
      have := of_decide_eq_true hq
      rw [List.map_append, List.map_cons, List.nodup_append] at h
      exact h.2.2 p.1 (List.mem_map.mpr ⟨p, hp, rfl⟩) kv.1 (List.mem_cons_self ..) this
    show mergeK (putK acc kv.1 kv.2) r = _
    have e : putK acc kv.1 kv.2 = acc ++ [kv] := by
      unfold putK
      rw [if_neg (by rw [hk]; decide)]
    rw [e, merge_nodup (by rw [List.append_assoc]; exact h), List.append_assoc]
    rfl
/-- the pairs are constants -/
theorem xe_dictC {pos : Pos} {keys : List (Option Expr)} {values : List Expr} {kvs : List (Key × V)} {ds : List (D × D)} (h : PPs X pos keys values (kvs.map fun p => (tC (kV p.1), tC p.2))) (hall : keys.all (·.isSome) = true) (hl : keys.length = values.length) (h0 : keys ≠ [])
    (h15 : keys.length ≤ 15) (hk15 : kvs.length ≤ 15) (hn : (kvs.map (·.1)).Nodup) (e : kvs.map (fun p => kD p.1) = ds.map (·.1)) (r : ∀ K H, RpAll K H (kvs.map (·.2)) (ds.map (·.2))) : XE X (xC (.dict ds)) (.Dict keys values pos) :=
  pe_weak (pe_lockQ (pe_disp h hall hl h0 h15)) fun σ H Q ⟨ρ, O, cs, r', cs', e0, en, w, p⟩ => by
    cases e0
    intro q hq
    refine tPairs_c (Q := fun ps H2 => H2 q = some (.dK []) ∧ ∃ kvs : List (Key × V), ps = kvs.map (fun kv => (kV kv.1, kv.2)) ∧ kvs.length ≤ 15 ∧ lockQ Q (.ref q) (upd H2 q (.dK (mergeK [] kvs)))) ⟨upd_same, kvs, rfl, hk15, ?_⟩
    have e2 : upd (upd H q (.dK [])) q (.dK (mergeK [] kvs)) = upd H q (.dK kvs) := by
      rw [merge_nodup (by simpa using hn), List.nil_append]
      funext a
      by_cases c : a = q
      · subst c; rw [upd_same, upd_same]
      · rw [upd_ne c, upd_ne c, upd_ne c]
    rw [e2]
    exact post_dict w e (r _ _) p q hq
/-! d[k] -/
def keyOf : D → Option Key
  | .int i => some (.inl i)
  | .str x => some (.inr x)
  | _ => none
theorem keyOf_v {K : PySem.W.Frag} {O : List (Option Addr)} {H : Hp} {v : V} {d : D} {k : Key} (h : Sh K O H v d) (e : keyOf d = some k) : v = kV k ∧ d = kD k := by
  cases d with
  | int i => cases e; exact ⟨h.int, rfl⟩
  | str x => cases e; exact ⟨h.str.1, rfl⟩
  | _ => cases e
def eqK : D → Key → Bool
  | .int i, .inl j => decide (i = j)
  | .str x, .inr y => decide (x = y)
  | _, _ => false
theorem eqK_kD {k j : Key} : eqK (kD k) j = decide (k = j) := by
  cases k <;> cases j <;> simp [eqK, kD]
def look : List (D × D) → Key → Option D
  | [], _ => none
  | p :: r, k => if eqK p.1 k = true then some p.2 else look r k
theorem look_v {K : PySem.W.Frag} {H : Hp} {k : Key} : ∀ {kvs : List (Key × V)} {ds : List (D × D)} {d : D}, kvs.map (fun p => kD p.1) = ds.map (·.1) → RpAll K H (kvs.map (·.2)) (ds.map (·.2)) → look ds k = some d → ∃ v, valV kvs k = some v ∧ Rp K H v d
  | [], [], _, _, _, e => by cases e
  | kv :: r, p :: ds, d, e, q, l => by
    rw [List.map_cons, List.map_cons] at e q
    have e1 := (List.cons.inj e).1
    have e2 := (List.cons.inj e).2
    cases q with
    | cons a q =>
      unfold look at l
      rw [← e1, eqK_kD] at l
      by_cases c : kv.1 = k
      · rw [if_pos (decide_eq_true c)] at l
        cases l
        exact ⟨kv.2, valV_pos c, a⟩
      · rw [if_neg (by simpa using c)] at l
        rw [valV_neg c]
        exact look_v e2 q l
  | [], _ :: _, _, e, _, _ => by cases e
  | _ :: _, [], _, e, _, _ => by cases e
def dDGet : D → D → Option Rv
  | .dict ds, k => (keyOf k).bind fun k => (look ds k).map .dat
  | _, _ => none
theorem xe_dget {o i : Expr} {fa fb : ME} {pos : Pos} (rm : Rm X) (ho : XE X fa o) (hi : XE X fb i) (hs : NoSl i := by exact fun _ _ => rfl) : XE X (mB dDGet fa fb) (.Subscript o i pos) :=
  pe_weak (pe_dget (by have := rm.un; omega) ho hi hs) fun σ H Q ⟨ρ, O, cs, z, cs', e, en, w, p⟩ => by
    obtain ⟨x, cs1, y, d, e', h1, h2, h3, h4, h5⟩ := mB_some e
    refine ⟨ρ, O, cs, x, cs1, h1, en, w, fun v1 H1 c1 w1 r1 => ?_⟩
    refine ⟨ρ, O, cs1, y, cs', h2, en.ch c1, w1, fun v2 H2 c2 w2 r2 => ?_⟩
    have sx := (r1.deg.ch c2).sh w2 h3
    have sy := r2.deg.sh w2 h4
    cases d with
    | dict ds =>
      obtain ⟨k, g1, g2⟩ := Option.bind_eq_some_iff.mp h5
      obtain ⟨t, g3, rfl⟩ := Option.map_eq_some_iff.mp g2
      obtain ⟨a, kvs, rfl, q, e1, r⟩ := sx.dict
      obtain ⟨u, l1, l2⟩ := look_v e1 r g3
      exact ⟨a, u, rfl, .inl ⟨kvs, k, q, (keyOf_v sy g1).1, l1.symm⟩, post_val w2 l2 (p.step (c1.trans c2) w2)⟩
    | _ => cases h5
/-! dict(pairs) -/
def prOf : D → Option (Key × D)
  | .tuple [k, v] => (keyOf k).map fun k => (k, v)
  | _ => none
def prsOf : List D → Option (List (Key × D))
  | [] => some []
  | d :: r => (prOf d).bind fun p => (prsOf r).map fun ps => p :: ps
def dDict : List D → Option Rv
  | [.list ds] => (prsOf ds).bind fun ps => if (ps.map (·.1)).Nodup then some (.dat (.dict (ps.map fun p => (kD p.1, p.2)))) else none
  | _ => none
theorem prsOf_v {K : PySem.W.Frag} {O : List (Option Addr)} {H : Hp} : ∀ {ds : List D} {vs : List V} {ps : List (Key × D)}, RpAll K (hd O H) vs ds → prsOf ds = some ps →
    ∃ (as : List Addr) (kvs : List (Key × V)), vs = as.map V.ref ∧ Paired (fun p kv => SqT K H p [kV kv.1, kv.2]) as kvs ∧ kvs.map (·.1) = ps.map (·.1) ∧ RpAll K (hd O H) (kvs.map (·.2)) (ps.map (·.2))
  | [], vs, ps, r, e => by cases r; cases e; exact ⟨[], [], rfl, .nil, rfl, .nil⟩
  | d :: ds, vs, ps, r, e => by
    obtain ⟨p, h1, h2⟩ := Option.bind_eq_some_iff.mp e
    obtain ⟨qs, h3, h4⟩ := Option.map_eq_some_iff.mp h2
    subst h4
    cases r with
    | cons a t =>
      obtain ⟨as, kvs, e1, e2, e3, e4⟩ := prsOf_v t h3
      subst e1
      unfold prOf at h1
      split at h1
      · rename_i k v
        obtain ⟨k', g1, g2⟩ := Option.map_eq_some_iff.mp h1
        subst g2
        cases a with
        | tup q r2 =>
          cases r2 with
          | cons b1 r2 =>
            cases r2 with
            | cons b2 r2 =>
              cases r2
              rename_i ad u1 u2
              have ek := (keyOf_v (O := O) (.inl b1 : Sh K O H u1 k) g1).1
              refine ⟨ad :: as, (k', u2) :: kvs, rfl, .cons (.inl ?_) e2, by simp [e3], .cons b2 e4⟩
              rw [← ek]
              exact rd_mono hd_le q
      · cases h1
theorem dictCS {K : PySem.W.Frag} : CaS K (fun xs H Q => ∃ (a : Addr) (ps : List Addr) (kvs : List (Key × V)), xs = [.ref a] ∧ SqL K H a (ps.map V.ref) ∧ Paired (fun p kv => SqT K H p [kV kv.1, kv.2]) ps kvs ∧
    ∀ p, H p = none → lockQ Q (.ref p) (upd H p (.dK (mergeK [] kvs)))) dDict := by
  intro O cs H vs ds z Q w hp g p
  match ds, g, hp with
  | [.list ds], g, hp =>
    obtain ⟨x, rfl, sx⟩ := Paired.one hp
    obtain ⟨ps, h1, g⟩ := Option.bind_eq_some_iff.mp g
    obtain ⟨hz, rfl⟩ := ite_some g
    obtain ⟨a, vs, rfl, q, r⟩ := sx.list
    obtain ⟨as, kvs, rfl, e2, e3, e4⟩ := prsOf_v r h1
    refine ⟨a, as, kvs, rfl, q.sq, e2, ?_⟩
    rw [merge_nodup (by rw [List.nil_append, e3]; exact hz), List.nil_append]
    refine post_dict w ?_ ?_ p
    · have : kvs.map (fun p => kD p.1) = (kvs.map (·.1)).map kD := by rw [List.map_map]; rfl
      rw [this, e3, List.map_map, List.map_map]
      rfl
    · rw [List.map_map]
      exact e4
theorem xe_dictP {e : Expr} {fa : MA} {p pos : Pos} (rm : Rm X) (hg : Gl X "dict") (hm : X.mg "dict" = none) (ha : XA X fa [e]) (he : starEach [e] X.env = (false, eval e X.env) :: starEach [] X.env := by rfl) : XE X (mCall dDict fa) (.Call (.Name "dict" p) [e] [] pos) :=
  xe_callTy (callR_lockQ (call_dictP rm.calm)) dictCS hg hm (by decide +kernel) ha (he := he)
end
end DL
namespace DL
open PySem PySem.Spec PyProof.Rows L2
/-! ### recursion: with fuel -/
def recM (n : Nat) (b : MF → MS) : Nat → MF
  | 0 => fun _ _ => none
  | i + 1 => fnM n (b (recM n b i))
theorem fnD_zero {P : Program} {w : World} {K : PySem.W.Frag} {mg : Str → Option Value} {base : Heap} {k : Nat} {f : Addr} {fd : FuncData} {ps : List Str} : FnD P w K mg base k f fd ps (fun _ _ => none) :=
  ⟨fun A outer s H args us vs Q rs O cs r cs' _ _ _ _ _ _ _ _ _ e _ => nomatch e⟩
theorem fnD_rec {P : Program} {w : World} {K : PySem.W.Frag} {mg : Str → Option Value} {base : Heap} {k : Nat} {f : Addr} {fd : FuncData} {ps : List Str} {n : Nat} {b : MF → MS}
    (step : ∀ (j : Nat) (m : MF), FnD P w K mg base (k + j) f fd ps m → FnD P w K mg base (k + j + 1) f fd ps (fnM n (b m))) : ∀ i : Nat, FnD P w K mg base (k + i) f fd ps (recM n b i)
  | 0 => fnD_zero
  | i + 1 => step i _ (fnD_rec step i)
/-! ### the end of a law -/
theorem hd_nil {H : Hp} : hd [] H = H := by
  funext a
  unfold hd
  rw [if_neg (by simp [live])]
theorem ints_rp {K : PySem.W.Frag} {H : Hp} : ∀ {ns : List Int}, RpAll K H (ns.map V.int) (ns.map PyData.int)
  | [] => .nil
  | n :: _ => .cons (.int n) ints_rp
/-- what is known of the heap when the law's def is called -/
structure Pre (s : Shared) (a : Addr) (vs : List Value) (ns : List Int) : Prop where
  nogen : s.gens = #[]
  scr : s.heap.get? a = some { cls := .type "list", data := .seq vs.toArray }
  areI : IntsAre vs ns
  fit : ns.length ≤ sizeLine
/-- the heap that the def sees -/
structure Seen (P : Program) (w : World) (K : PySem.W.Frag) (s : Shared) (a : Addr) (H : Hp) (ns : List Int) : Prop where
  only : Only H
  rp : Rp K H (.ref a) (.list (ns.map .int))
  ok : HOk P w H s.heap
  at_a : ∀ b, H b ≠ none → b = a
  unk : H a ≠ none → K.lookup a = none
def scrO (vs : List Value) : Obj := { cls := .type "list", data := .seq vs.toArray }
def oneH (a : Addr) (o : HO) : Hp := fun b => if b = a then some o else none
theorem oneH_at {a : Addr} {o : HO} : oneH a o a = some o := if_pos rfl
theorem oneH_cases {a b : Addr} {o u : HO} (h : oneH a o b = some u) : b = a ∧ u = o := by
  unfold oneH at h
  split at h
  · exact ⟨by assumption, (Option.some.inj h).symm⟩
  · cases h
theorem seen_of {P : Program} {w : World} {K : PySem.W.Frag} {s : Shared} {a : Addr} {vs : List Value} {ns : List Int} (KX : K.In s.heap) (p : Pre s a vs ns) : ∃ H, Seen P w K s a H ns := by
  have rv := vals_ints p.areI
  have hz : (ns.map V.int).length ≤ sizeLine := by rw [List.length_map]; exact p.fit
  cases hk : K.lookup a with
  | some o =>
    have e := (KX a o hk).symm.trans p.scr
    have e' : o = { cls := .type "list", data := .seq vs.toArray } := Option.some.inj e
    subst e'
    exact ⟨fun _ => none, fun _ => .inl rfl, .lst (.inr ⟨vs, _, hk, hz, rv⟩) ints_rp, (fun _ _ z => nomatch z), fun _ z => (z rfl).elim, fun z => (z rfl).elim⟩
  | none =>
    refine ⟨oneH a (.frz (scrO vs) (.lst (ns.map V.int))), fun b => ?_, .lst (.inl (.inr ⟨_, oneH_at⟩)) ints_rp, fun b u z => ?_, fun b z => ?_, fun _ => hk⟩
    · cases q : oneH a (.frz (scrO vs) (.lst (ns.map V.int))) b with
      | none => exact .inl rfl
      | some u => exact .inr ⟨_, _, by rw [(oneH_cases q).2]⟩
    · obtain ⟨e1, e2⟩ := oneH_cases z
      subst e1 e2
      exact ⟨p.scr, hz, vs, _, rv, p.scr⟩
    · cases q : oneH a (.frz (scrO vs) (.lst (ns.map V.int))) b with
      | none => exact absurd q z
      | some u => exact (oneH_cases q).1
section
variable {P : Program} {w : World} {K : PySem.W.Frag} {s : Shared} {a : Addr} {vs : List Value} {ns : List Int} {H : Hp}
theorem Seen.base (p : Pre s a vs ns) (S : Seen P w K s a H ns) {b : Addr} {m : Str → Option Value} (h : s.heap.Ns b m) : (hidT s.heap H).Ns b m := by
  obtain ⟨o, es, ep, e, d, r⟩ := h
  refine ⟨o, es, ep, hidT_get e ?_, d, r⟩
  cases q : H b with
  | none => rfl
  | some u =>
    have eb := S.at_a b (by rw [q]; exact nofun)
    rw [eb, p.scr] at e
    have e' := Option.some.inj e
    subst e'
    exact nomatch (show Data.seq vs.toArray _ = Data.dict es ep from d)
theorem Seen.kin (KX : K.In s.heap) (S : Seen P w K s a H ns) : K.In (hidT s.heap H) := fun b o e => hidT_get (KX b o e) (by
  cases q : H b with
  | none => rfl
  | some u =>
    have n0 : H b ≠ none := by rw [q]; exact nofun
    have eb := S.at_a b n0
    subst eb
    exact nomatch (S.unk n0).symm.trans e)
theorem Seen.env {mg mb : Str → Option Value} (KX : K.In s.heap) (p : Pre s a vs ns) (S : Seen P w K s a H ns) (hns : s.heap.Ns mainGlobals mg) (hb : s.heap.Ns builtinsNs mb) (hbb : ∀ x : Str, x ≠ "__name__" → mb x = bootBuiltins x) (hlim : s.heap.NoLimit) : Env0 P w K mg (hidT s.heap H) callerA [] s H := by
  refine ⟨rfl, ⟨S.kin KX, S.base p hns, ⟨mb, S.base p hb, hbb⟩, ?_⟩, fun _ _ => of_hidT, Nat.le_of_eq (hidT_size _ _), trivial, fun _ z => absurd z List.not_mem_nil, S.ok, .of_eq p.nogen⟩
  obtain ⟨mc, h1, h2⟩ := hlim
  exact ⟨mc, S.base p h1, h2⟩
end
theorem law_callD {P : Program} {w : World} {K : PySem.W.Frag} {mg mb : Str → Option Value} {k : Nat} {fa a : Addr} {fd : FuncData} {x : Str} {m : MF} {s : Shared} {vs : List Value} {ns : List Int}
    (KX : K.In s.heap) (hns : s.heap.Ns mainGlobals mg) (hb : s.heap.Ns builtinsNs mb) (hbb : ∀ x : Str, x ≠ "__name__" → mb x = bootBuiltins x) (hlim : s.heap.NoLimit) (hnd : s.heap.NoDigits) (p : Pre s a vs ns) (hr : Room k callerA)
    (F : ∀ base : Heap, K.In base → base.Ns mainGlobals mg → FnD P w K mg base k fa fd [x] m) (hbind : ∀ (s : Shared) (u : Value), BindsTo s fd ⟨[u], []⟩ [(x, u)]) (hm : m [.dat (.list (ns.map .int))] [] = some (.dat (.bool true), [])) :
    codeAny (model P w) callerA (.call (.ref fa) ⟨[.ref a], []⟩) (fun r t => r = .ok (.ret (.bool true)) ∧ OldK s.heap t.heap ∧ t.os = s.os ∧ AllBare t.gens) s := by
  obtain ⟨H, S⟩ := seen_of (P := P) (w := w) KX p
  have nd : (hidT s.heap H).NoDigits := by
    obtain ⟨mc, h1, h2⟩ := hnd
    exact ⟨mc, S.base p h1, h2⟩
  have wd : Wd K [] [] H := ⟨rfl, fun _ _ _ h => by simp at h, fun _ _ h => by simp at h, fun _ h => by simp at h⟩
  have ar : ArRs K [] H [.dat (.list (ns.map .int))] [.ref a] := ⟨by show Rp K (hd [] H) _ _; rw [hd_nil]; exact S.rp, trivial⟩
  refine codeAny_mono ((F _ (S.kin KX) (S.base p hns)).run callerA [] s H ⟨[.ref a], []⟩ [.ref a] [.ref a] (fun v _ => v = .bl true) _ [] [] _ _ rfl nd hr (S.env KX p hns hb hbb hlim) (hbind s (.ref a)) (.cons rfl .nil) rfl wd ar hm fun v H' _ _ rv => ?_) fun r t h => ?_
  · have rv' : Rp K (hd [] H') v (.bool true) := rv
    cases rv'
    rfl
  · cases r with
    | error e => exact False.elim h
    | ok fl =>
      cases fl with
      | ret u =>
        obtain ⟨v, H', os, bare, un, ok', ru, ev⟩ := h
        have ev' : v = .bl true := ev
        subst ev'
        cases (show u = Value.bool true from ru)
        refine ⟨rfl, OldK.of_keep fun b o e => ?_, os, bare⟩
        cases q : H b with
        | none => exact un.keep b o e q (fun z => absurd z List.not_mem_nil) (by simp)
        | some t =>
          rcases S.only b with z | ⟨ob, xs, z⟩
          · exact nomatch q.symm.trans z
          · have e1 := (S.ok b _ z).1
            have e2 := (ok' b _ (un.frzs b ob _ z)).1
            rw [Option.some.inj (e.symm.trans e1)]
            exact e2
      | next => exact False.elim h
      | brk => exact False.elim h
      | cont => exact False.elim h
/-- the law's walk, from its mirror -/
theorem walk_ofD {l : PySem.W.OpenLaw} {n k : Nat} {q : Program} {loose : List Str} {XP : (Str → Option Value) → Heap → Prop} {YP : World → Heap → Prop} {d : DefRec} {x : Str} {m : MF}
    (hn : l.most = some n) (hn2 : n ≤ sizeLine) (hdf : d.params.defaults = []) (hr : Room k callerA)
    (F : ∀ (w : World) (mg : Str → Option Value) (fa : Addr) (h : Heap), YP w h → h.Ns mainGlobals mg → mg d.name = some (.ref fa) →
      ∃ (K : PySem.W.Frag) (fd : FuncData), K.In h ∧ (∀ (s : Shared) (u : Value), BindsTo s fd ⟨[u], []⟩ [(x, u)]) ∧ ∀ base : Heap, K.In base → base.Ns mainGlobals mg → FnD l.prog w K mg base k fa fd [x] m)
    (hm : ∀ ns : List Int, ns.length ≤ n → (∀ z ∈ ns, Builtin.Int.intBits z ≤ 1048576) → m [.dat (.list (ns.map .int))] [] = some (.dat (.bool true), [])) :
    PySem.W.WalkO q loose XP YP l.row.toRowW d [] (fun f vs => PySem.call f vs) := by
  refine Att.attach_callB hn hdf fun w s₀ s mg mb fa o pm cd doc a vs ns G Y _ _ _ hmg hobj hints hlen hbits hg => ?_
  obtain ⟨K, fd, KX, hb, hF⟩ := F w mg fa _ Y G.T.g hmg
  exact law_callD KX G.T.g G.T.b G.T.builtins G.T.nolimit G.T.nodigits ⟨hg, hobj, hints, Nat.le_trans hlen hn2⟩ hr hF hb (hm ns hlen hbits)
end DL
namespace DL
open PySem PySem.Spec PyProof.Rows L2
section
variable {X : Cx}
theorem Rm.blk (rm : Rm X) {s : Shared} {H : Hp} {sc : Scope} {ce : Env} {fp : List Addr} : Rm (X.blk s H sc ce fp) := ⟨rm.hd, rm.un, rm.gd, rm.calm, rm.nd⟩
/-- a def, ready to be called -/
structure Cal (P : Program) (w : World) (K : PySem.W.Frag) (mg : Str → Option Value) (base : Heap) (k : Nat) (x : Str) (st : Stmt) (ps : List Str) (m : MF) : Prop where
  ex : ∃ (f : Addr) (fd : FuncData), FunD K x x (defArgs st) (defBody st) (defScope st) [] [] f fd ∧ FnD P w K mg base k f fd ps m ∧ mg x = some (.ref f) ∧ Binds K fd ps []
variable {k j : Nat} {x : Str} {st : Stmt} {ps : List Str} {m : MF}
theorem w_call {n : Nat} {e : Expr} {es : List Expr} {fa : MA} {p pos : Pos} (C : Cal X.prog X.w X.K X.mg X.base j x st ps m) (hr : Room k X.A) (rm : Rm X) (ha : XA X fa (e :: es)) (hj : j ≤ k := by decide) (hg : Gl X x := by rfl) (hdb : (x == ("__debug__" : Str)) = false := by decide)
    (he : starEach (e :: es) X.env = (false, eval e X.env) :: starEach es X.env := by rfl) (hpl : (backTo pos (starEach es X.env)).any (·.1) = false := by rfl) (hn : ps.length = n := by rfl) : XE X (mCallF n m fa) (.Call (.Name x p) (e :: es) [] pos) := by
  subst hn
  obtain ⟨f, fd, F, G, hm, hb⟩ := C.ex
  exact xe_call G (hr.mono hj) rm hg hm F.kp hb ha hdb he hpl
theorem w_call0 {n : Nat} {p pos : Pos} (C : Cal X.prog X.w X.K X.mg X.base j x st ps m) (hr : Room k X.A) (rm : Rm X) (hj : j ≤ k := by decide) (hg : Gl X x := by rfl) (hdb : (x == ("__debug__" : Str)) = false := by decide) (hn : ps.length = n := by rfl) : XE X (mCallF n m aNil) (.Call (.Name x p) [] [] pos) := by
  subst hn
  obtain ⟨f, fd, F, G, hm, hb⟩ := C.ex
  exact xe_call0 G (hr.mono hj) rm hg hm F.kp hb hdb
/-- the binding by keywords, as it computes -/
def KwC (x : Str) (st : Stmt) (ps : List Str) (n : Nat) (ks : List Str) (π : List Nat) : Prop := ∀ (kV doc pm : Value) (an : Option Addr) (cdv ct : Value) (us ws : List Value), us.length = n → ws.length = ks.length →
  bindArgs (PySem.W.fnOf x x (defArgs st) (defBody st) (defScope st) .none kV doc pm an cdv ct) ⟨us, ks.zip ws⟩ = pure (ps.zip (pick π (us ++ ws)))
theorem kwB_of {K : PySem.W.Frag} {f : Addr} {fd : FuncData} {n : Nat} {ks : List Str} {π : List Nat} (F : FunD K x x (defArgs st) (defBody st) (defScope st) [] [] f fd) (h : KwC x st ps n ks π) : KwB K fd ps n ks π := by
  obtain ⟨oc, od, dV, kV, doc, pm, an, cdv, ct, osl, rfl, lk, hcd, hD, hK⟩ := F.ex
  rcases hD with ⟨_, rfl⟩ | ⟨e, _⟩
  · exact ⟨fun s us ws _ h1 h2 => .of_eq (h kV doc pm an cdv ct us ws h1 h2)⟩
  · exact absurd rfl e
theorem w_callK {n n1 n2 : Nat} {ks : List Str} {π : List Nat} {e : Expr} {es : List Expr} {kws : List Keyword} {fa fk : MA} {p pos : Pos} (C : Cal X.prog X.w X.K X.mg X.base j x st ps m) (hr : Room k X.A) (rm : Rm X) (hb : KwC x st ps n ks π) (ha : XA X fa (e :: es)) (hkw : XK X fk kws) (hj : j ≤ k := by decide) (hg : Gl X x := by rfl)
    (hall : (backToKw pos (keywordEach kws X.env)).all (·.1.isSome) = true := by rfl) (hks : (backToKw pos (keywordEach kws X.env)).filterMap (·.1) = ks := by rfl)
    (hdb : (x == ("__debug__" : Str)) = false := by decide) (he : starEach (e :: es) X.env = (false, eval e X.env) :: starEach es X.env := by rfl)
    (hpl : ((backTo pos (starEach (e :: es) X.env)).any (·.1) || (backToKw pos (keywordEach kws X.env)).any (·.1.isNone)) = false := by rfl) (e1 : ks.length = n1 := by rfl) (e2 : ps.length = n2 := by rfl) : XE X (mCallK n n1 n2 π m fa fk) (.Call (.Name x p) (e :: es) kws pos) := by
  subst e1 e2
  obtain ⟨f, fd, F, G, hm, _⟩ := C.ex
  exact xe_callK G (hr.mono hj) rm hg hm F.kp (kwB_of F hb) ha hkw hall hks hdb he hpl
theorem w_callK0 {n1 n2 : Nat} {ks : List Str} {π : List Nat} {kws : List Keyword} {fk : MA} {p pos : Pos} (C : Cal X.prog X.w X.K X.mg X.base j x st ps m) (hr : Room k X.A) (rm : Rm X) (hb : KwC x st ps 0 ks π) (hkw : XK X fk kws) (hj : j ≤ k := by decide) (hg : Gl X x := by rfl)
    (hall : (backToKw pos (keywordEach kws X.env)).all (·.1.isSome) = true := by rfl) (hks : (backToKw pos (keywordEach kws X.env)).filterMap (·.1) = ks := by rfl)
    (hdb : (x == ("__debug__" : Str)) = false := by decide)
    (hpl : ((backTo pos (starEach [] X.env)).any (·.1) || (backToKw pos (keywordEach kws X.env)).any (·.1.isNone)) = false := by rfl) (e1 : ks.length = n1 := by rfl) (e2 : ps.length = n2 := by rfl) : XE X (mCallK 0 n1 n2 π m aNil fk) (.Call (.Name x p) [] kws pos) := by
  subst e1 e2
  obtain ⟨f, fd, F, G, hm, _⟩ := C.ex
  exact xe_callK0 G (hr.mono hj) rm hg hm F.kp (kwB_of F hb) hkw hall hks hdb hpl
/-- a def's own contract -/
theorem cal_of {P : Program} {w : World} {K : PySem.W.Frag} {mg : Str → Option Value} {base : Heap} {N : List Str} {b : MS} (F : ∃ f fd, FunD K x x (defArgs st) (defBody st) (defScope st) [] [] f fd ∧ mg x = some (.ref f)) (S : FnScope N ps (defScope st))
    (hb : ∀ (kV doc pm : Value) (an : Option Addr) (cdv ct : Value) (us : List Value), us.length = ps.length → bindArgs (PySem.W.fnOf x x (defArgs st) (defBody st) (defScope st) .none kV doc pm an cdv ct) ⟨us, []⟩ = pure (ps.zip us))
    (h : ∀ (f : Addr) (cdv : Value) (A : Around) (outer : List Env) (s : Shared) (H : Hp), Room k (A.deeper (envOfC x (defScope st) s.heap.objs.size f cdv)) → Rm (cxD P w K mg base N x (defScope st) f cdv A outer s H) → XSs (cxD P w K mg base N x (defScope st) f cdv A outer s H) b (defBody st)) :
    Cal P w K mg base (k + 1) x st ps (fnM N.length b) := by
  obtain ⟨f, fd, F, hm⟩ := F
  exact ⟨f, fd, F, fnD_of F S fun cdv A outer s H hr rm => h f cdv A outer s H hr rm, hm, F.bindsN hb⟩
theorem Cal.mono {P : Program} {w : World} {K : PySem.W.Frag} {mg : Str → Option Value} {base : Heap} {i : Nat} (C : Cal P w K mg base k x st ps m) (h : k ≤ i) : Cal P w K mg base i x st ps m := by
  obtain ⟨f, fd, F, G, hm, hb⟩ := C.ex
  exact ⟨f, fd, F, G.mono h, hm, hb⟩
/-- a def that calls itself: fuel i -/
theorem cal_rec {P : Program} {w : World} {K : PySem.W.Frag} {mg : Str → Option Value} {base : Heap} {N : List Str} {b : MF → MS} (i : Nat) (F : ∃ f fd, FunD K x x (defArgs st) (defBody st) (defScope st) [] [] f fd ∧ mg x = some (.ref f)) (S : FnScope N ps (defScope st))
    (hb : ∀ (kV doc pm : Value) (an : Option Addr) (cdv ct : Value) (us : List Value), us.length = ps.length → bindArgs (PySem.W.fnOf x x (defArgs st) (defBody st) (defScope st) .none kV doc pm an cdv ct) ⟨us, []⟩ = pure (ps.zip us))
    (h : ∀ (l : Nat) (m : MF), Cal P w K mg base (k + l) x st ps m → ∀ (f : Addr) (cdv : Value) (A : Around) (outer : List Env) (s : Shared) (H : Hp), Room (k + l) (A.deeper (envOfC x (defScope st) s.heap.objs.size f cdv)) → Rm (cxD P w K mg base N x (defScope st) f cdv A outer s H) → XSs (cxD P w K mg base N x (defScope st) f cdv A outer s H) (b m) (defBody st)) :
    Cal P w K mg base (k + i) x st ps (recM N.length b i) := by
  obtain ⟨f, fd, F, hm⟩ := F
  exact ⟨f, fd, F, fnD_rec (fun l m G => fnD_of F S fun cdv A outer s H hr rm => h l m ⟨f, fd, F, G, hm, F.bindsN hb⟩ f cdv A outer s H hr rm) i, hm, F.bindsN hb⟩
/-! words: what is seen of the text is found by rfl -/
theorem w_var (i : Nat) {pos : Pos} (hN : X.N[i]? = some x := by rfl) (hv : Vis X.env.scope x := by first | exact Or.inl rfl | exact Or.inr (Or.inl rfl) | exact Or.inr (Or.inr rfl)) (hd : (x == ("__debug__" : Str)) = false := by decide) (hcd : (x == ("__classdict__" : Str)) = false := by decide) : XE X (xVar i) (.Name x pos) := xe_var hN hv hd hcd
theorem w_gint {i : Int} {pos : Pos} (hm : ∃ t, X.mg x = some (.int i t)) (hg : Gl X x := by rfl) (hd : (x == ("__debug__" : Str)) = false := by decide) : XE X (xC (.int i)) (.Name x pos) := by
  obtain ⟨t, ht⟩ := hm
  exact xe_gint hg ht hd
theorem w_gstr {z : Str} {pos : Pos} (hm : ∃ t, X.mg x = some (.str z t)) (hg : Gl X x := by rfl) (hd : (x == ("__debug__" : Str)) = false := by decide) (h : z.length ≤ sizeLine := by decide +kernel) : XE X (xC (.str z)) (.Name x pos) := by
  obtain ⟨t, ht⟩ := hm
  exact xe_gstr hg ht hd h
theorem w_set (i : Nat) {e : Expr} {f : ME} {pos pos' : Pos} (hN : X.N.Nodup) (he : XE X f e) (hi : X.N[i]? = some x := by rfl) (hx : Loc X.env.scope x := by first | exact Or.inl rfl | exact Or.inr rfl) (hs : swapsWith e (some (.Name x pos')) pos.line X.env = pure false := by rfl)
    (hf : X.fn x = true ∨ X.env.scope.names.lookup x = some .local := by first | exact .inl rfl | exact .inr rfl) : XS X (sSet i f) (.Assign [.Name x pos'] e pos) := xs_set hN hi hx he hs hf
theorem w_own (i : Nat) {e : Expr} {f : ME} {pos pos' : Pos} (hN : X.N.Nodup) (he : XE X f e) (hi : X.N[i]? = some x := by rfl) (hx : Loc X.env.scope x := by first | exact Or.inl rfl | exact Or.inr rfl) (hs : swapsWith e (some (.Name x pos')) pos.line X.env = pure false := by rfl)
    (hf : X.fn x = true ∨ X.env.scope.names.lookup x = some .local := by first | exact .inl rfl | exact .inr rfl) : XS X (sOwn i f) (.Assign [.Name x pos'] e pos) := xs_own hN hi hx he hs hf
theorem w_gn (i : Nat) {pos : Pos} {vs : List Nat} (hN : X.N.Nodup) (hi : X.N[i]? = some x := by rfl) (hx : Loc X.env.scope x := by first | exact Or.inl rfl | exact Or.inr rfl) (hm : i ∈ vs := by simp) (hf : X.fn x = true ∨ X.env.scope.names.lookup x = some .local := by first | exact .inl rfl | exact .inr rfl) : XG X vs (gNm i) (.Name x pos) :=
  xg_name hN hi hx hm hf
theorem w_app (i : Nat) {e : Expr} {fe : ME} {p1 apos cpos pos : Pos} (he : XE X fe e) (hN : X.N[i]? = some x := by rfl) (hv : Vis X.env.scope x := by first | exact Or.inl rfl | exact Or.inr (Or.inl rfl) | exact Or.inr (Or.inr rfl))
    (hs : starEach [e] X.env = (false, eval e X.env) :: starEach [] X.env := by rfl)
    (hbase : attributeBase (.Name x p1) "append" X.env (eval (.Name x p1) X.env) = eval (.Name x p1) X.env := by rfl)
    (hfew : ((backTo cpos (starEach [e] X.env)).all (fun x => !x.1) && (backToKw cpos (keywordEach [] X.env)).all (fun x => x.1.isSome)
      && decide ([e].length + ([] : List Keyword).length + (if ([] : List Keyword).isEmpty then 0 else 1) < 30)) = true := by rfl)
    (hline : (apos.endLine == cpos.line) = true := by rfl) (hplain : (backTo cpos (starEach [] X.env)).any (·.1) = false := by rfl)
    (hsw : swapsWith (.Call (.Attribute (.Name x p1) "append" apos) [e] [] cpos) none pos.line X.env = pure false := by rfl)
    (hd : (x == ("__debug__" : Str)) = false := by decide) (hcd : (x == ("__classdict__" : Str)) = false := by decide) :
    XS X (sApp i fe) (.Expr (.Call (.Attribute (.Name x p1) "append" apos) [e] [] cpos) pos) := xs_app hN hv he hs hbase hfew hline hplain hsw hd hcd
theorem w_put (n : Nat) {i e : Expr} {fi fe : ME} {p1 p2 pos : Pos} (hi : XE X fi i) (he : XE X fe e) (hN : X.N[n]? = some x := by rfl) (hv : Vis X.env.scope x := by first | exact Or.inl rfl | exact Or.inr (Or.inl rfl) | exact Or.inr (Or.inr rfl))
    (ha : ∀ v, assign (.Subscript (.Name x p1) i p2) X.env v = (do
      let ov ← holding [v] (eval (.Name x p1) X.env)
      let iv ← holding [v, ov] (eval i X.env)
      standAt p2
      holding [v, ov, iv] (setItem ov iv v)
      release [v, ov, iv] []) := by intro _; rfl)
    (hs : swapsWithSole [.Subscript (.Name x p1) i p2] e pos.line X.env = pure false := by rfl) (hw : swappedStores [.Subscript (.Name x p1) i p2] e X.env = pure none := by rfl)
    (h1 : (assignEach [.Subscript (.Name x p1) i p2] X.env).map (·.2) = [assign (.Subscript (.Name x p1) i p2) X.env] := by rfl)
    (hd : (x == ("__debug__" : Str)) = false := by decide) (hcd : (x == ("__classdict__" : Str)) = false := by decide) :
    XS X (sPut n fi fe) (.Assign [.Subscript (.Name x p1) i p2] e pos) := xs_put hN hv hi he ha hs hw h1 hd hcd
theorem w_for (ws : List Nat) {tg iter : Expr} {body : List Stmt} {f : MI} {g : MG} {b : MS} {pos : Pos} (hi : XI X f tg iter) (hg : XG X ws g tg) (hb : XSs X b body) (hp : PassesOwn (model X.prog X.w) X.A X.env X.xe := by exact PassesOwn.never) (hc : X.calm = true := by rfl)
    (hs : ∀ x, foldedSetIterable iter X.env x = pure x := by intro _; rfl) : XS X (sFor f g b) (.For tg iter body [] pos) := xs_for hp hc hi hg hb hs
theorem w_while {c : Expr} {body : List Stmt} {t : MT} {b : MS} {pos : Pos} (hc : XT X t c) (hb : XSs X b body) (hp : PassesOwn (model X.prog X.w) X.A X.env X.xe := by exact PassesOwn.never) : XS X (sWh t b) (.While c body [] pos) := xs_while hp hc hb
end
end DL
namespace DL
open PySem PySem.Spec PyProof.Rows L2
section
variable {X : Cx}
/-! ### arguments some of which become owned cells at once -/
def tXAo (K : PySem.W.Frag) (f : MA) : TA := fun σ H Q => ∃ ρ O cs rs cs', f ρ cs = some (rs, cs') ∧ EnvOk K O H ρ σ ∧ Wd K O cs H ∧ ∀ vs O' H', Ext O.length O O' H → Ch O H H' → Wd K O' cs' H' → ArRs K O' H' rs vs → Q vs H'
def XAo (X : Cx) (f : MA) (es : List Expr) : Prop := PA X es (tXAo X.K f)
theorem ArR.extO {K : PySem.W.Frag} {O O' : List (Option Addr)} {H H' : Hp} {r : Rv} {v : V} (e : Ext O.length O O' H) (c : Ch O H H') (h : ArR K O r v H) : ArR K O' r v H' := by
  cases r with
  | dat d => exact Rp.mono (Sub.of e c) h
  | own k =>
    obtain ⟨a, ev, q⟩ := h
    exact ⟨a, ev, by rw [e.pre k (List.getElem?_eq_some_iff.mp q).1]; exact q⟩
  | fr c => exact h.elim
theorem EnvOk.extO {K : PySem.W.Frag} {O O' : List (Option Addr)} {H H' : Hp} {ρ : Rho} {σ : L2.St} (en : EnvOk K O H ρ σ) (e : Ext O.length O O' H) (c : Ch O H H') : EnvOk K O' H' ρ σ :=
  ⟨en.len, fun i r h => let ⟨v, h1, h2⟩ := en.slot i r h; ⟨v, h1, h2.extO e c⟩⟩
theorem Ext.low {n m : Nat} {O O' : List (Option Addr)} {H : Hp} (e : Ext n O O' H) (h : m ≤ n) : Ext m O O' H := ⟨fun i hi => e.pre i (by omega), e.sub⟩
theorem xao_nil : XAo X aNil [] := pa_weak pa_nil fun σ H Q ⟨ρ, O, cs, rs, cs', e, en, w, p⟩ => by
  cases e
  exact p [] O H .refl .refl w trivial
/-- an item that is data -/
def aDat (fa : ME) (fr : MA) : MA := fun ρ cs => (fa ρ cs).bind fun p => match deg p.1 with
  | .dat d => (fr ρ p.2).map fun q => (.dat d :: q.1, q.2)
  | _ => none
/-- an item that is a fresh list: an owned cell -/
def aOwn (fa : ME) (fr : MA) : MA := fun ρ cs => (fa ρ cs).bind fun p => match p.1 with
  | .fr c => (fr ρ (p.2 ++ [some c])).map fun q => (.own p.2.length :: q.1, q.2)
  | _ => none
theorem xao_dat {e : Expr} {es : List Expr} {fa : ME} {fr : MA} (ha : XE X fa e) (hr : XAo X fr es) (hs : starEach (e :: es) X.env = (false, eval e X.env) :: starEach es X.env := by rfl) : XAo X (aDat fa fr) (e :: es) :=
  pa_weak (pa_cons ha hr hs) fun σ H Q ⟨ρ, O, cs, rs, cs', e0, en, w, p⟩ => by
    obtain ⟨⟨x, cs1⟩, h1, e1⟩ := Option.bind_eq_some_iff.mp e0
    refine ⟨ρ, O, cs, x, cs1, h1, en, w, fun v1 H1 c1 w1 r1 => ?_⟩
    have rr := r1.deg
    dsimp only at e1
    split at e1
    · rename_i d hd'
      obtain ⟨⟨r, cs2⟩, h2, e2⟩ := Option.map_eq_some_iff.mp e1
      cases e2
      rw [hd'] at rr
      exact ⟨ρ, O, cs1, r, cs2, h2, en.ch c1, w1, fun vs O' H2 e2 c2 w2 r2 => p _ O' H2 (Ext.refl.trans w w1 c1 e2) (c1.trans c2) w2 ⟨rr.extO e2 c2, r2⟩⟩
    · cases e1
theorem xao_own {e : Expr} {es : List Expr} {fa : ME} {fr : MA} (ha : XE X fa e) (hr : XAo X fr es) (hs : starEach (e :: es) X.env = (false, eval e X.env) :: starEach es X.env := by rfl) : XAo X (aOwn fa fr) (e :: es) :=
  pa_weak (pa_cons ha hr hs) fun σ H Q ⟨ρ, O, cs, rs, cs', e0, en, w, p⟩ => by
    obtain ⟨⟨x, cs1⟩, h1, e1⟩ := Option.bind_eq_some_iff.mp e0
    refine ⟨ρ, O, cs, x, cs1, h1, en, w, fun v1 H1 c1 w1 r1 => ?_⟩
    cases x with
    | fr l =>
      obtain ⟨⟨r, cs2⟩, h2, e2⟩ := Option.map_eq_some_iff.mp e1
      cases e2
      obtain ⟨q, rfl, hq, w2⟩ := r1
      have ex : Ext O.length O (O ++ [some q]) H := ext_new (K := X.K) (Nat.le_refl _) hq
      refine ⟨ρ, O ++ [some q], cs1 ++ [some l], r, cs2, h2, en.extO ex c1, w2, fun vs O' H2 e2 c2 w3 r2 => ?_⟩
      have e2' : Ext O.length (O ++ [some q]) O' H1 := e2.low (by simp)
      refine p _ O' H2 (ex.trans w w2 c1 e2') (c1.ext ex c2) w3 ⟨⟨q, rfl, ?_⟩, r2⟩
      rw [e2.pre _ (by rw [w1.len]; simp), w1.len]
      simp
    | _ => cases e1
/-- a, b = x, y -/
def sParO (i j : Nat) (fa : MA) : MS := fun _ ρ cs => (fa ρ cs).bind fun p => match p.1 with
  | [r, t] => some (.nx ((ρ.set i (some r)).set j (some t)) p.2)
  | _ => none
def sPar3 (i j l : Nat) (fa : MA) : MS := fun _ ρ cs => (fa ρ cs).bind fun p => match p.1 with
  | [r, t, u] => some (.nx (((ρ.set i (some r)).set j (some t)).set l (some u)) p.2)
  | _ => none
theorem xs_parO {i j : Nat} {x y : Str} {a b : Expr} {fa : MA} {px py pt pos : Pos} {kt k2 pt2} (hc : X.calm = true) (hN : X.N.Nodup) (ha : XAo X fa [a, b]) (hi : X.N[i]? = some x := by rfl) (hj : X.N[j]? = some y := by rfl) (hij : i ≠ j := by decide)
    (hx : X.env.scope.names.lookup x = some .local := by rfl) (hy : X.env.scope.names.lookup y = some .local := by rfl)
    (hw : swappedStores [.Tuple [.Name x px, .Name y py] kt pt] (.Tuple [a, b] k2 pt2) X.env = pure (some [x, y]) := by rfl)
    (hs : swapsWithSole [.Tuple [.Name x px, .Name y py] kt pt] (.Tuple [a, b] k2 pt2) pos.line X.env = pure false := by rfl) :
    XS X (sParO i j fa) (.Assign [.Tuple [.Name x px, .Name y py] kt pt] (.Tuple [a, b] k2 pt2) pos) :=
  ps_weak (ps_par hc hN hi hj hij hx hy ha hw hs) fun D σ H ⟨n0, ρ, O, cs, out, e0, hn, en, w, p⟩ => by
    obtain ⟨⟨rs, cs1⟩, h1, h2⟩ := Option.bind_eq_some_iff.mp e0
    refine ⟨ρ, O, cs, rs, cs1, h1, en, w, fun vs O' H' e c w' ra => ?_⟩
    dsimp only at h2
    split at h2
    · rename_i _ d t
      cases h2
      match vs, ra with
      | [v, u], ra => exact ⟨v, u, rfl, p _ O' H' (e.low hn) c (((en.extO e c).set i ra.1).set j ra.2.1) w'⟩
      | [], ra => exact ra.elim
      | [_], ra => exact ra.2.elim
      | _ :: _ :: _ :: _, ra => exact ra.2.2.elim
    · cases h2
theorem xs_par3 {i j l : Nat} {x y z : Str} {a b c : Expr} {fa : MA} {px py pz pt pos : Pos} {kt k2 pt2} (hc : X.calm = true) (hN : X.N.Nodup) (ha : XAo X fa [a, b, c]) (hi : X.N[i]? = some x := by rfl) (hj : X.N[j]? = some y := by rfl) (hl : X.N[l]? = some z := by rfl)
    (hij : i ≠ j := by decide) (hil : i ≠ l := by decide) (hjl : j ≠ l := by decide) (hx : X.env.scope.names.lookup x = some .local := by rfl) (hy : X.env.scope.names.lookup y = some .local := by rfl) (hz : X.env.scope.names.lookup z = some .local := by rfl)
    (hw : swappedStores [.Tuple [.Name x px, .Name y py, .Name z pz] kt pt] (.Tuple [a, b, c] k2 pt2) X.env = pure (some [x, y, z]) := by rfl)
    (hs : swapsWithSole [.Tuple [.Name x px, .Name y py, .Name z pz] kt pt] (.Tuple [a, b, c] k2 pt2) pos.line X.env = pure false := by rfl) :
    XS X (sPar3 i j l fa) (.Assign [.Tuple [.Name x px, .Name y py, .Name z pz] kt pt] (.Tuple [a, b, c] k2 pt2) pos) :=
  ps_weak (ps_par3 hc hN hi hj hl hij hil hjl hx hy hz ha hw hs) fun D σ H ⟨n0, ρ, O, cs, out, e0, hn, en, w, p⟩ => by
    obtain ⟨⟨rs, cs1⟩, h1, h2⟩ := Option.bind_eq_some_iff.mp e0
    refine ⟨ρ, O, cs, rs, cs1, h1, en, w, fun vs O' H' e c w' ra => ?_⟩
    dsimp only at h2
    split at h2
    · cases h2
      match vs, ra with
      | [v, u, t], ra => exact ⟨v, u, t, rfl, p _ O' H' (e.low hn) c ((((en.extO e c).set i ra.1).set j ra.2.1).set l ra.2.2.1) w'⟩
      | [], ra => exact ra.elim
      | [_], ra => exact ra.2.elim
      | [_, _], ra => exact ra.2.2.elim
      | _ :: _ :: _ :: _ :: _, ra => exact ra.2.2.2.elim
    · cases h2
/-! ### all, any of a list -/
def fitB : D → Bool
  | .str x => decide (x.length ≤ sizeLine)
  | .list xs => decide (xs.length ≤ sizeLine)
  | .tuple xs => decide (xs.length ≤ sizeLine)
  | _ => true
theorem fitB_ok {d : D} (h : fitB d = true) : d.fits63 := by
  have key : ∀ {n : Nat}, n ≤ sizeLine → (n : Int) < 2 ^ 63 := fun {n} h => by rw [sizeLine_eq] at h; omega
  cases d with
  | str x => exact key (of_decide_eq_true h)
  | list x => exact key (of_decide_eq_true h)
  | tuple x => exact key (of_decide_eq_true h)
  | _ => trivial
def allOk (ds : List D) : Bool := PyData.plainAll ds && ds.all fitB
def rAllD (K : PySem.W.Frag) (g : List D → Bool) : List V → Hp → VK → Prop := fun xs H Q => ∃ (a : Addr) (vs : List V) (ds : List D), xs = [.ref a] ∧ SqL K H a vs ∧ RpAll K H vs ds ∧ allOk ds = true ∧ Q (.bl (g ds)) H
theorem call_allD (rm : Rm X) : CallR X (.builtin "all") (rAllD X.K fun ds => ds.all PyData.truthy) := by
  intro pins s σ H xs us Q I r h
  obtain ⟨a, vs, ds, rfl, hs, hr, ok, q⟩ := h
  obtain ⟨o1, o2⟩ := Bool.and_eq_true_iff.mp ok
  obtain ⟨its, rv, pl, hz⟩ := I.list hs
  rw [Vals.ref1 r]
  obtain ⟨as, rd⟩ := RpAll.reads I hr its rv
  exact PySem.W.all_list_data (vs := its.toArray) (I.ok.hd rm.calm) pl.isList (by simpa using rd) o1 (fun x hx => fitB_ok (List.all_eq_true.mp o2 x hx)) fun h' tk k => ⟨.bl _, H, I.kept k, rfl, q⟩
theorem call_anyD (rm : Rm X) : CallR X (.builtin "any") (rAllD X.K fun ds => ds.any PyData.truthy) := by
  intro pins s σ H xs us Q I r h
  obtain ⟨a, vs, ds, rfl, hs, hr, ok, q⟩ := h
  obtain ⟨o1, o2⟩ := Bool.and_eq_true_iff.mp ok
  obtain ⟨its, rv, pl, hz⟩ := I.list hs
  rw [Vals.ref1 r]
  obtain ⟨as, rd⟩ := RpAll.reads I hr its rv
  exact PySem.W.any_list_data (vs := its.toArray) (I.ok.hd rm.calm) pl.isList (by simpa using rd) o1 (fun x hx => fitB_ok (List.all_eq_true.mp o2 x hx)) fun h' tk k => ⟨.bl _, H, I.kept k, rfl, q⟩
def dAll : List D → Option Rv
  | [.list ds] => if allOk ds = true then some (db (ds.all PyData.truthy)) else none
  | _ => none
def dAny : List D → Option Rv
  | [.list ds] => if allOk ds = true then some (db (ds.any PyData.truthy)) else none
  | _ => none
theorem allCS {K : PySem.W.Frag} : CaS K (rAllD K fun ds => ds.all PyData.truthy) dAll := by
  intro O cs H vs ds z Q w hp g p
  match ds, g, hp with
  | [.list ds], g, hp =>
    obtain ⟨x, rfl, sx⟩ := Paired.one hp
    obtain ⟨hz, rfl⟩ := ite_some g
    obtain ⟨a, vs, rfl, q, r⟩ := sx.list
    exact ⟨a, vs, ds, rfl, q.sq, r.mono hd_le, hz, post_bool w p⟩
theorem anyCS {K : PySem.W.Frag} : CaS K (rAllD K fun ds => ds.any PyData.truthy) dAny := by
  intro O cs H vs ds z Q w hp g p
  match ds, g, hp with
  | [.list ds], g, hp =>
    obtain ⟨x, rfl, sx⟩ := Paired.one hp
    obtain ⟨hz, rfl⟩ := ite_some g
    obtain ⟨a, vs, rfl, q, r⟩ := sx.list
    exact ⟨a, vs, ds, rfl, q.sq, r.mono hd_le, hz, post_bool w p⟩
theorem xe_all {e : Expr} {fa : MA} {p pos : Pos} (rm : Rm X) (hg : Gl X "all") (hm : X.mg "all" = none) (ha : XA X fa [e]) (he : starEach [e] X.env = (false, eval e X.env) :: starEach [] X.env := by rfl) : XE X (mCall dAll fa) (.Call (.Name "all" p) [e] [] pos) :=
  xe_callB (call_allD rm) allCS hg hm (by decide +kernel) ha (he := he)
theorem xe_any {e : Expr} {fa : MA} {p pos : Pos} (rm : Rm X) (hg : Gl X "any") (hm : X.mg "any" = none) (ha : XA X fa [e]) (he : starEach [e] X.env = (false, eval e X.env) :: starEach [] X.env := by rfl) : XE X (mCall dAny fa) (.Call (.Name "any" p) [e] [] pos) :=
  xe_callB (call_anyD rm) anyCS hg hm (by decide +kernel) ha (he := he)
/-! ### max, min of a list of ints -/
def maxI : List Int → Int
  | [] => 0
  | [a] => a
  | a :: r => max a (maxI r)
def minI : List Int → Int
  | [] => 0
  | [a] => a
  | a :: r => min a (minI r)
theorem maxI_mem : ∀ {l : List Int}, l ≠ [] → maxI l ∈ l ∧ ∀ y ∈ l, y ≤ maxI l
  | [], h => absurd rfl h
  | [a], _ => ⟨by simp [maxI], by simp [maxI]⟩
  | a :: b :: r, _ => by
    obtain ⟨h1, h2⟩ := maxI_mem (l := b :: r) (by simp)
    show max a (maxI (b :: r)) ∈ _ ∧ ∀ y ∈ _, y ≤ max a (maxI (b :: r))
    refine ⟨?_, fun y hy => ?_⟩
    · rcases Int.le_total a (maxI (b :: r)) with h | h
      · rw [Int.max_eq_right h]; exact List.mem_cons_of_mem _ h1
      · rw [Int.max_eq_left h]; exact List.mem_cons_self ..
    · rcases List.mem_cons.mp hy with h | h
      · rw [h]; exact Int.le_max_left _ _
      · exact Int.le_trans (h2 y h) (Int.le_max_right _ _)
theorem minI_mem : ∀ {l : List Int}, l ≠ [] → minI l ∈ l ∧ ∀ y ∈ l, minI l ≤ y
  | [], h => absurd rfl h
  | [a], _ => ⟨by simp [minI], by simp [minI]⟩
  | a :: b :: r, _ => by
    obtain ⟨h1, h2⟩ := minI_mem (l := b :: r) (by simp)
    show min a (minI (b :: r)) ∈ _ ∧ ∀ y ∈ _, min a (minI (b :: r)) ≤ y
    refine ⟨?_, fun y hy => ?_⟩
    · rcases Int.le_total a (minI (b :: r)) with h | h
      · rw [Int.min_eq_left h]; exact List.mem_cons_self ..
      · rw [Int.min_eq_right h]; exact List.mem_cons_of_mem _ h1
    · rcases List.mem_cons.mp hy with h | h
      · rw [h]; exact Int.min_le_left _ _
      · exact Int.le_trans (Int.min_le_right _ _) (h2 y h)
def dMaxL : List D → Option Rv
  | [.list ds] => (intsD ds).bind fun is => if is ≠ [] then some (di (maxI is)) else none
  | _ => none
def dMinL : List D → Option Rv
  | [.list ds] => (intsD ds).bind fun is => if is ≠ [] then some (di (minI is)) else none
  | _ => none
theorem maxLCS {K : PySem.W.Frag} : CaS K (rMax K) dMaxL := by
  intro O cs H vs ds z Q w hp g p
  match ds, g, hp with
  | [.list ds], g, hp =>
    obtain ⟨x, rfl, sx⟩ := Paired.one hp
    obtain ⟨is, h1, g⟩ := Option.bind_eq_some_iff.mp g
    obtain ⟨hz, rfl⟩ := ite_some g
    obtain ⟨a, vs, rfl, q, r⟩ := sx.list
    have e := intsD_v r h1
    subst e
    obtain ⟨m1, m2⟩ := maxI_mem hz
    refine ⟨a, is, rfl, q.sq, List.length_pos_iff.mpr hz, fun m hm hle => ?_⟩
    have : m = maxI is := Int.le_antisymm (m2 m hm) (hle _ m1)
    rw [this]
    exact post_int w p
theorem minLCS {K : PySem.W.Frag} : CaS K (rMin K) dMinL := by
  intro O cs H vs ds z Q w hp g p
  match ds, g, hp with
  | [.list ds], g, hp =>
    obtain ⟨x, rfl, sx⟩ := Paired.one hp
    obtain ⟨is, h1, g⟩ := Option.bind_eq_some_iff.mp g
    obtain ⟨hz, rfl⟩ := ite_some g
    obtain ⟨a, vs, rfl, q, r⟩ := sx.list
    have e := intsD_v r h1
    subst e
    obtain ⟨m1, m2⟩ := minI_mem hz
    refine ⟨a, is, rfl, q.sq, List.length_pos_iff.mpr hz, fun m hm hle => ?_⟩
    have : m = minI is := Int.le_antisymm (hle _ m1) (m2 m hm)
    rw [this]
    exact post_int w p
theorem xe_maxL {e : Expr} {fa : MA} {p pos : Pos} (rm : Rm X) (hg : Gl X "max") (hm : X.mg "max" = none) (ha : XA X fa [e]) (he : starEach [e] X.env = (false, eval e X.env) :: starEach [] X.env := by rfl) : XE X (mCall dMaxL fa) (.Call (.Name "max" p) [e] [] pos) :=
  xe_callB (cr_max rm.calm) maxLCS hg hm (by decide +kernel) ha (he := he)
theorem xe_minL {e : Expr} {fa : MA} {p pos : Pos} (rm : Rm X) (hg : Gl X "min") (hm : X.mg "min" = none) (ha : XA X fa [e]) (he : starEach [e] X.env = (false, eval e X.env) :: starEach [] X.env := by rfl) : XE X (mCall dMinL fa) (.Call (.Name "min" p) [e] [] pos) :=
  xe_callB (cr_min rm.calm) minLCS hg hm (by decide +kernel) ha (he := he)
/-! ### list(range(..)) -/
theorem rg_rp {K : PySem.W.Frag} {H : Hp} (a b : Int) : RpAll K H (rgV a b) (rngD a (b - a).toNat) := by
  unfold rgV rngD
  induction (List.range (b - a).toNat) with
  | nil => exact .nil
  | cons n r ih => exact .cons (.int _) ih
def rgOkB (a b : Int) : Bool := decide (-(2 ^ 62) ≤ a) && decide (a < 2 ^ 62) && decide (-(2 ^ 62) ≤ b) && decide (b < 2 ^ 62) && decide ((b - a).toNat ≤ 2 ^ 24)
theorem rgOk_of {a b : Int} (h : rgOkB a b = true) : RgOk a b := by
  unfold rgOkB at h
  simp only [Bool.and_eq_true, decide_eq_true_eq] at h
  exact ⟨h.1.1.1.1, h.1.1.1.2, h.1.1.2, h.1.2, h.2⟩
def mLR1 (fa : ME) : ME := fun ρ cs => (fa ρ cs).bind fun p => (intOf p.1).bind fun n => if rgOkB 0 n = true then some (.fr (rngD 0 (n - 0).toNat), p.2) else none
def mLR2 (fa fb : ME) : ME := fun ρ cs => (fa ρ cs).bind fun p => (fb ρ p.2).bind fun q => (intOf p.1).bind fun a => (intOf q.1).bind fun b => if rgOkB a b = true then some (.fr (rngD a (b - a).toNat), q.2) else none
theorem xe_lr1 {a : Expr} {fa : ME} {p pos p2 pos2 : Pos} (rm : Rm X) (hg : Gl X "list") (hm : X.mg "list" = none) (hg2 : Gl X "range") (hm2 : X.mg "range" = none) (ha : XE X fa a) (na : starEach [a] X.env = (false, eval a X.env) :: starEach [] X.env := by rfl)
    (nb : starEach [.Call (.Name "range" p2) [a] [] pos2] X.env = (false, eval (.Call (.Name "range" p2) [a] [] pos2) X.env) :: starEach [] X.env := by rfl) : XE X (mLR1 fa) (.Call (.Name "list" p) [.Call (.Name "range" p2) [a] [] pos2] [] pos) :=
  pe_weak (pe_listRg rm.calm hg hm (prg_1 hg2 hm2 ha na) nb) fun σ H Q ⟨ρ, O, cs, z, cs', e, en, w, p⟩ => by
    obtain ⟨⟨x, cs1⟩, h1, e1⟩ := Option.bind_eq_some_iff.mp e
    obtain ⟨n, h2, e2⟩ := Option.bind_eq_some_iff.mp e1
    obtain ⟨ok, e3⟩ := ite_some e2
    cases e3
    obtain rfl : x = di n := intOf_some h2
    refine ⟨ρ, O, cs, _, cs1, h1, en, w, fun v1 H1 c1 w1 r1 => ?_⟩
    cases (show Rp X.K (DL.hd O H1) v1 (.int n) from r1)
    exact ⟨n, rfl, rgOk_of ok, post_list w1 (rg_rp 0 n) (p.step c1 w1)⟩
theorem xe_lr2 {a b : Expr} {fa fb : ME} {p pos p2 pos2 : Pos} (rm : Rm X) (hg : Gl X "list") (hm : X.mg "list" = none) (hg2 : Gl X "range") (hm2 : X.mg "range" = none) (ha : XE X fa a) (hb : XE X fb b) (na : starEach [a, b] X.env = (false, eval a X.env) :: starEach [b] X.env := by rfl)
    (nb : starEach [b] X.env = (false, eval b X.env) :: starEach [] X.env := by rfl) (hp : (backTo pos2 (starEach [b] X.env)).any (·.1) = false := by rfl)
    (nc : starEach [.Call (.Name "range" p2) [a, b] [] pos2] X.env = (false, eval (.Call (.Name "range" p2) [a, b] [] pos2) X.env) :: starEach [] X.env := by rfl) : XE X (mLR2 fa fb) (.Call (.Name "list" p) [.Call (.Name "range" p2) [a, b] [] pos2] [] pos) :=
  pe_weak (pe_listRg rm.calm hg hm (prg_2 hg2 hm2 ha hb na nb hp) nc) fun σ H Q ⟨ρ, O, cs, z, cs', e, en, w, p⟩ => by
    obtain ⟨⟨x, cs1⟩, h1, e1⟩ := Option.bind_eq_some_iff.mp e
    obtain ⟨⟨y, cs2⟩, h2, e2⟩ := Option.bind_eq_some_iff.mp e1
    obtain ⟨i, h3, e3⟩ := Option.bind_eq_some_iff.mp e2
    obtain ⟨j, h4, e4⟩ := Option.bind_eq_some_iff.mp e3
    obtain ⟨ok, e5⟩ := ite_some e4
    cases e5
    obtain rfl : x = di i := intOf_some h3
    obtain rfl : y = di j := intOf_some h4
    refine ⟨ρ, O, cs, _, cs1, h1, en, w, fun v1 H1 c1 w1 r1 => ?_⟩
    cases (show Rp X.K (DL.hd O H1) v1 (.int i) from r1)
    refine ⟨ρ, O, cs1, _, cs2, h2, en.ch c1, w1, fun v2 H2 c2 w2 r2 => ?_⟩
    cases (show Rp X.K (DL.hd O H2) v2 (.int j) from r2)
    exact ⟨i, j, rfl, rfl, rgOk_of ok, post_list w2 (rg_rp i j) (p.step (c1.trans c2) w2)⟩
end
end DL
namespace DL
open PySem PySem.Spec PyProof.Rows L2
/-! ### running mirrors: what holds behind -/
def wpo {α β : Type} (o : Option (α × β)) (Q : α → β → Prop) : Prop := match o with
  | some p => Q p.1 p.2
  | none => False
def wpd {α : Type} (o : Option α) (Q : α → Prop) : Prop := match o with
  | some x => Q x
  | none => False
section
variable {α β γ : Type}
@[simp] theorem wpo_some {a : α} {b : β} {Q : α → β → Prop} : wpo (some (a, b)) Q ↔ Q a b := Iff.rfl
@[simp] theorem wpo_none {Q : α → β → Prop} : wpo (none : Option (α × β)) Q ↔ False := Iff.rfl
@[simp] theorem wpd_some {a : α} {Q : α → Prop} : wpd (some a) Q ↔ Q a := Iff.rfl
@[simp] theorem wpd_none {Q : α → Prop} : wpd (none : Option α) Q ↔ False := Iff.rfl
theorem wpo_iff {o : Option (α × β)} {Q : α → β → Prop} : wpo o Q ↔ ∃ a b, o = some (a, b) ∧ Q a b := by
  cases o with
  | none => simp
  | some p =>
    obtain ⟨a, b⟩ := p
    exact ⟨fun h => ⟨a, b, rfl, h⟩, fun ⟨_, _, e, h⟩ => by cases e; exact h⟩
theorem wpd_iff {o : Option α} {Q : α → Prop} : wpd o Q ↔ ∃ a, o = some a ∧ Q a := by
  cases o <;> simp
theorem wpo_of {o : Option (α × β)} {a : α} {b : β} {Q : α → β → Prop} (h : o = some (a, b)) (q : Q a b) : wpo o Q := by rw [h]; exact q
theorem wpo_mono {o : Option (α × β)} {Q R : α → β → Prop} (h : wpo o Q) (i : ∀ a b, Q a b → R a b) : wpo o R := by
  cases o with
  | none => exact h
  | some p => exact i _ _ h
theorem wpd_mono {o : Option α} {Q R : α → Prop} (h : wpd o Q) (i : ∀ a, Q a → R a) : wpd o R := by
  cases o with
  | none => exact h
  | some p => exact i _ h
theorem wpo_bind {γ δ : Type} {o : Option (α × β)} {k : α × β → Option (γ × δ)} {Q : γ → δ → Prop} : wpo (o.bind k) Q ↔ wpo o fun a b => wpo (k (a, b)) Q := by cases o <;> rfl
theorem wpo_map {δ : Type} {o : Option (α × β)} {k : α × β → γ × δ} {Q : γ → δ → Prop} : wpo (o.map k) Q ↔ wpo o fun a b => Q (k (a, b)).1 (k (a, b)).2 := by cases o <;> rfl
theorem wpd_bindo {o : Option α} {k : α → Option (β × γ)} {Q : β → γ → Prop} : wpo (o.bind k) Q ↔ wpd o fun a => wpo (k a) Q := by cases o <;> rfl
theorem wpd_mapo {o : Option α} {k : α → β × γ} {Q : β → γ → Prop} : wpo (o.map k) Q ↔ wpd o fun a => Q (k a).1 (k a).2 := by cases o <;> rfl
theorem wpd_bind {o : Option α} {k : α → Option β} {Q : β → Prop} : wpd (o.bind k) Q ↔ wpd o fun a => wpd (k a) Q := by cases o <;> rfl
theorem wpd_map {o : Option α} {k : α → β} {Q : β → Prop} : wpd (o.map k) Q ↔ wpd o fun a => Q (k a) := by cases o <;> rfl
@[simp] theorem wpd_ite {c : Prop} [Decidable c] {o : Option α} {Q : α → Prop} : wpd (if c then o else none) Q ↔ c ∧ wpd o Q := by
  by_cases h : c <;> simp [h]
@[simp] theorem wpo_ite {c : Prop} [Decidable c] {o : Option (α × β)} {Q : α → β → Prop} : wpo (if c then o else none) Q ↔ c ∧ wpo o Q := by
  by_cases h : c <;> simp [h]
end
def Ev (f : ME) (ρ : Rho) (cs : Cs) (Q : Rv → Cs → Prop) : Prop := wpo (f ρ cs) Q
def Et (f : MT) (ρ : Rho) (cs : Cs) (Q : Bool → Cs → Prop) : Prop := wpo (f ρ cs) Q
def Ea (f : MA) (ρ : Rho) (cs : Cs) (Q : List Rv → Cs → Prop) : Prop := wpo (f ρ cs) Q
def Em (m : MF) (rs : List Rv) (cs : Cs) (Q : Rv → Cs → Prop) : Prop := wpo (m rs cs) Q
def Ei (f : MI) (ρ : Rho) (cs : Cs) (Q : List D → Cs → Prop) : Prop := wpo (f ρ cs) Q
def Eo (f : MO) (ρ : Rho) (cs : Cs) (Q : Option Int → Cs → Prop) : Prop := wpo (f ρ cs) Q
def Eg (g : MG) (d : D) (ρ : Rho) (Q : Rho → Prop) : Prop := wpd (g d ρ) Q
def Egs (g : MGs) (ds : List D) (ρ : Rho) (Q : Rho → Prop) : Prop := wpd (g ds ρ) Q
def Es (f : MS) (n0 : Nat) (ρ : Rho) (cs : Cs) (Q : Out → Prop) : Prop := wpd (f n0 ρ cs) Q
/-- read as data -/
def Rd1 (r : Rv) (cs : Cs) (Q : D → Prop) : Prop := wpd (rd (deg r) cs) Q
def O1 (g : D → Option Rv) (x : Rv) (cs : Cs) (Q : Rv → Cs → Prop) : Prop := Rd1 x cs fun d => wpd (g d) fun z => Q z cs
def O2 (g : D → D → Option Rv) (x y : Rv) (cs : Cs) (Q : Rv → Cs → Prop) : Prop := Rd1 x cs fun d => Rd1 y cs fun e => wpd (g d e) fun z => Q z cs
section
variable {ρ : Rho} {cs : Cs} {Q : Rv → Cs → Prop} {QD : D → Prop} {QT : Bool → Cs → Prop} {QA : List Rv → Cs → Prop} {QI : List D → Cs → Prop} {QO : Option Int → Cs → Prop} {QS : Out → Prop} {QR : Rho → Prop} {n0 : Nat} {fa fb fc : ME} {f g : MS} {m : MF}
@[simp] theorem rd1_dat {d : D} : Rd1 (.dat d) cs QD ↔ QD d := Iff.rfl
@[simp] theorem rd1_fr {d : List D} : Rd1 (.fr d) cs QD ↔ QD (.list d) := Iff.rfl
theorem rd1_own {k : Nat} {c : List D} (h : cs[k]? = some (some c)) : Rd1 (.own k) cs QD ↔ QD (.list c) := by
  unfold Rd1 deg rd
  simp only [h]
  rfl
@[simp] theorem o1_dat {g : D → Option Rv} {d : D} : O1 g (.dat d) cs Q ↔ wpd (g d) fun z => Q z cs := Iff.rfl
@[simp] theorem o1_fr {g : D → Option Rv} {d : List D} : O1 g (.fr d) cs Q ↔ wpd (g (.list d)) fun z => Q z cs := Iff.rfl
@[simp] theorem o2_dd {g : D → D → Option Rv} {d e : D} : O2 g (.dat d) (.dat e) cs Q ↔ wpd (g d e) fun z => Q z cs := Iff.rfl
@[simp] theorem o2_fd {g : D → D → Option Rv} {d : List D} {e : D} : O2 g (.fr d) (.dat e) cs Q ↔ wpd (g (.list d) e) fun z => Q z cs := Iff.rfl
@[simp] theorem o2_df {g : D → D → Option Rv} {d : D} {e : List D} : O2 g (.dat d) (.fr e) cs Q ↔ wpd (g d (.list e)) fun z => Q z cs := Iff.rfl
@[simp] theorem o2_ff {g : D → D → Option Rv} {d : List D} {e : List D} : O2 g (.fr d) (.fr e) cs Q ↔ wpd (g (.list d) (.list e)) fun z => Q z cs := Iff.rfl
theorem o2_od {g : D → D → Option Rv} {k : Nat} {c : List D} {e : D} (h : cs[k]? = some (some c)) : O2 g (.own k) (.dat e) cs Q ↔ wpd (g (.list c) e) fun z => Q z cs := by
  unfold O2
  rw [rd1_own h]
  exact Iff.rfl
theorem o2_do {g : D → D → Option Rv} {k : Nat} {c : List D} {e : D} (h : cs[k]? = some (some c)) : O2 g (.dat e) (.own k) cs Q ↔ wpd (g e (.list c)) fun z => Q z cs := by
  unfold O2
  rw [rd1_dat, rd1_own h]
@[simp] theorem ev_xVar {i : Nat} : Ev (xVar i) ρ cs Q ↔ wpd (ρ[i]?.join) fun r => Q r cs := wpd_mapo
@[simp] theorem ev_xC {d : D} : Ev (xC d) ρ cs Q ↔ Q (.dat d) cs := Iff.rfl
@[simp] theorem ev_mB {h : D → D → Option Rv} : Ev (mB h fa fb) ρ cs Q ↔ Ev fa ρ cs fun x cs1 => Ev fb ρ cs1 fun y cs2 => O2 h x y cs2 Q := by
  unfold Ev mB O2 Rd1
  rw [wpo_bind]
  refine iff_of_eq (congrArg _ (funext fun x => funext fun cs1 => propext ?_))
  rw [wpo_bind]
  refine iff_of_eq (congrArg _ (funext fun y => funext fun cs2 => propext ?_))
  rw [wpd_bindo]
  refine iff_of_eq (congrArg _ (funext fun d => propext ?_))
  rw [wpd_bindo]
  refine iff_of_eq (congrArg _ (funext fun e => propext ?_))
  rw [wpd_mapo]
@[simp] theorem ev_mU {h : D → Option Rv} : Ev (mU h fa) ρ cs Q ↔ Ev fa ρ cs fun x cs1 => O1 h x cs1 Q := by
  unfold Ev mU O1 Rd1
  rw [wpo_bind]
  refine iff_of_eq (congrArg _ (funext fun x => funext fun cs1 => propext ?_))
  rw [wpd_bindo]
  refine iff_of_eq (congrArg _ (funext fun d => propext ?_))
  rw [wpd_mapo]
@[simp] theorem ea_nil : Ea aNil ρ cs QA ↔ QA [] cs := Iff.rfl
@[simp] theorem ea_cons {fr : MA} : Ea (aCons fa fr) ρ cs QA ↔ Ev fa ρ cs fun x cs1 => Ea fr ρ cs1 fun rs cs2 => QA (deg x :: rs) cs2 := by
  unfold Ev Ea aCons
  rw [wpo_bind]
  refine iff_of_eq (congrArg _ (funext fun x => funext fun cs1 => propext ?_))
  rw [wpo_map]
@[simp] theorem deg_dat {d : D} : deg (.dat d) = .dat d := rfl
@[simp] theorem deg_own {k : Nat} : deg (.own k) = .own k := rfl
@[simp] theorem deg_fr {d : List D} : deg (.fr d) = .dat (.list d) := rfl
/-- all read as data -/
def RdA (rs : List Rv) (cs : Cs) (Q : List D → Prop) : Prop := wpd (rdAll rs cs) Q
@[simp] theorem rda_nil {Q : List D → Prop} : RdA [] cs Q ↔ Q [] := Iff.rfl
@[simp] theorem rda_cons {r : Rv} {rs : List Rv} {Q : List D → Prop} : RdA (r :: rs) cs Q ↔ wpd (rd r cs) fun d => RdA rs cs fun ds => Q (d :: ds) := by
  unfold RdA
  rw [show rdAll (r :: rs) cs = (rd r cs).bind fun d => (rdAll rs cs).map fun ds => d :: ds from rfl, wpd_bind]
  refine iff_of_eq (congrArg _ (funext fun d => propext ?_))
  rw [wpd_map]
@[simp] theorem rd_dat {d : D} : rd (.dat d) cs = some d := rfl
@[simp] theorem rd_fr {d : List D} : rd (.fr d) cs = some (.list d) := rfl
theorem rd_own {k : Nat} {c : List D} (h : cs[k]? = some (some c)) : rd (.own k) cs = some (.list c) := by
  unfold rd
  simp only [h]
@[simp] theorem ev_mCall {h : List D → Option Rv} {fr : MA} : Ev (mCall h fr) ρ cs Q ↔ Ea fr ρ cs fun rs cs1 => RdA rs cs1 fun ds => wpd (h ds) fun z => Q z cs1 := by
  unfold Ev Ea mCall RdA
  rw [wpo_bind]
  refine iff_of_eq (congrArg _ (funext fun x => funext fun cs1 => propext ?_))
  rw [wpd_bindo]
  refine iff_of_eq (congrArg _ (funext fun d => propext ?_))
  rw [wpd_mapo]
@[simp] theorem ev_mDisp {h : List D → Rv} {fr : MA} : Ev (mDisp h fr) ρ cs Q ↔ Ea fr ρ cs fun rs cs1 => wpd (datAll rs) fun ds => ds.length ≤ sizeLine ∧ Q (h ds) cs1 := by
  unfold Ev Ea mDisp
  rw [wpo_bind]
  refine iff_of_eq (congrArg _ (funext fun x => funext fun cs1 => propext ?_))
  rw [wpd_bindo]
  refine iff_of_eq (congrArg _ (funext fun d => propext ?_))
  rw [wpo_ite]
  exact Iff.rfl
@[simp] theorem ev_xLst {fr : MA} : Ev (xLst fr) ρ cs Q ↔ Ea fr ρ cs fun rs cs1 => wpd (datAll rs) fun ds => ds.length ≤ sizeLine ∧ Q (.fr ds) cs1 := ev_mDisp
@[simp] theorem ev_xTup {fr : MA} : Ev (xTup fr) ρ cs Q ↔ Ea fr ρ cs fun rs cs1 => wpd (datAll rs) fun ds => ds.length ≤ sizeLine ∧ Q (.dat (.tuple ds)) cs1 := ev_mDisp
@[simp] theorem datAll_nil : datAll [] = some [] := rfl
@[simp] theorem datAll_cons {d : D} {rs : List Rv} : datAll (.dat d :: rs) = (datAll rs).map fun ds => d :: ds := rfl
@[simp] theorem ev_mIf {c : MT} : Ev (mIf c fa fb) ρ cs Q ↔ Et c ρ cs fun b cs1 => if b = true then Ev fa ρ cs1 Q else Ev fb ρ cs1 Q := by
  unfold Ev Et mIf
  rw [wpo_bind]
  refine iff_of_eq (congrArg _ (funext fun b => funext fun cs1 => propext ?_))
  cases b <;> simp
def Tr1 (x : Rv) (cs : Cs) (Q : Bool → Prop) : Prop := Rd1 x cs fun d => wpd (truD d) Q
@[simp] theorem truD_none : truD .none = some false := rfl
@[simp] theorem truD_bool {b : Bool} : truD (.bool b) = some b := rfl
@[simp] theorem truD_int {i : Int} : truD (.int i) = some (i != 0) := rfl
@[simp] theorem truD_str {x : Str} : truD (.str x) = some ((x.length : Int) != 0) := rfl
@[simp] theorem truD_list {ds : List D} : truD (.list ds) = some (!ds.isEmpty) := rfl
@[simp] theorem truD_tuple {ds : List D} : truD (.tuple ds) = some (!ds.isEmpty) := rfl
@[simp] theorem tr1_bool {b : Bool} {Q : Bool → Prop} : Tr1 (.dat (.bool b)) cs Q ↔ Q b := Iff.rfl
@[simp] theorem tr1_dat {d : D} {Q : Bool → Prop} : Tr1 (.dat d) cs Q ↔ wpd (truD d) Q := Iff.rfl
@[simp] theorem tr1_fr {d : List D} {Q : Bool → Prop} : Tr1 (.fr d) cs Q ↔ Q (!d.isEmpty) := Iff.rfl
@[simp] theorem ev_mAnd : Ev (mAnd fa fb) ρ cs Q ↔ Ev fa ρ cs fun x cs1 => Tr1 x cs1 fun k => if k = true then Ev fb ρ cs1 Q else Q (deg x) cs1 := by
  unfold Ev mAnd Tr1 Rd1
  rw [wpo_bind]
  refine iff_of_eq (congrArg _ (funext fun x => funext fun cs1 => propext ?_))
  rw [wpd_bindo]
  refine iff_of_eq (congrArg _ (funext fun d => propext ?_))
  rw [wpd_bindo]
  refine iff_of_eq (congrArg _ (funext fun b => propext ?_))
  cases b <;> simp
@[simp] theorem ev_mOr : Ev (mOr fa fb) ρ cs Q ↔ Ev fa ρ cs fun x cs1 => Tr1 x cs1 fun k => if k = true then Q (deg x) cs1 else Ev fb ρ cs1 Q := by
  unfold Ev mOr Tr1 Rd1
  rw [wpo_bind]
  refine iff_of_eq (congrArg _ (funext fun x => funext fun cs1 => propext ?_))
  rw [wpd_bindo]
  refine iff_of_eq (congrArg _ (funext fun d => propext ?_))
  rw [wpd_bindo]
  refine iff_of_eq (congrArg _ (funext fun b => propext ?_))
  cases b <;> simp
@[simp] theorem ev_mCallF {n : Nat} {fr : MA} : Ev (mCallF n m fr) ρ cs Q ↔ Ea fr ρ cs fun rs cs1 => rs.length = n ∧ Em m rs cs1 Q := by
  unfold Ev Ea Em mCallF
  rw [wpo_bind]
  refine iff_of_eq (congrArg _ (funext fun x => funext fun cs1 => propext ?_))
  exact wpo_ite
@[simp] theorem ev_mCallK {n k q : Nat} {π : List Nat} {fr fk : MA} : Ev (mCallK n k q π m fr fk) ρ cs Q ↔ Ea fr ρ cs fun rs cs1 => Ea fk ρ cs1 fun ks cs2 => (rs.length = n ∧ ks.length = k ∧ (pick π (rs ++ ks)).length = q) ∧ Em m (pick π (rs ++ ks)) cs2 Q := by
  unfold Ev Ea Em mCallK
  rw [wpo_bind]
  refine iff_of_eq (congrArg _ (funext fun x => funext fun cs1 => propext ?_))
  rw [wpo_bind]
  refine iff_of_eq (congrArg _ (funext fun y => funext fun cs2 => propext ?_))
  exact wpo_ite
@[simp] theorem ev_mM1 {h : D → D → Option Rv} : Ev (mM1 h fa fb) ρ cs Q ↔ Ev fa ρ cs fun x cs1 => wpd (match x with | .dat (.str a) => some a | _ => none) fun a => Ev fb ρ cs1 fun y cs2 => O2 h (.dat (.str a)) y cs2 Q := by
  unfold Ev mM1
  rw [wpo_bind]
  refine iff_of_eq (congrArg _ (funext fun x => funext fun cs1 => propext ?_))
  have go : ∀ a : Str, (wpo ((fb ρ cs1).bind fun q => (rd (deg q.1) q.2).bind fun e => (h (.str a) e).map fun z => (z, q.2)) Q ↔ wpo (fb ρ cs1) fun y cs2 => O2 h (.dat (.str a)) y cs2 Q) := fun a => by
    rw [wpo_bind]
    refine iff_of_eq (congrArg _ (funext fun y => funext fun cs2 => propext ?_))
    unfold O2 Rd1
    rw [wpd_bindo]
    show _ ↔ wpd (some (PyData.str a)) _
    rw [wpd_some]
    refine iff_of_eq (congrArg _ (funext fun d => propext ?_))
    rw [wpd_mapo]
  cases x with
  | dat d =>
    cases d with
    | str a => exact go a
    | _ => exact Iff.rfl
  | _ => exact Iff.rfl
@[simp] theorem eo_none : Eo oNone ρ cs QO ↔ QO none cs := Iff.rfl
@[simp] theorem eo_some : Eo (oSome fa) ρ cs QO ↔ Ev fa ρ cs fun x cs1 => wpd (intOf x) fun i => QO (some i) cs1 := by
  unfold Eo Ev oSome
  rw [wpo_bind]
  refine iff_of_eq (congrArg _ (funext fun x => funext fun cs1 => propext ?_))
  rw [wpd_mapo]
@[simp] theorem intOf_dat {i : Int} : intOf (.dat (.int i)) = some i := rfl
@[simp] theorem ev_mSl {lo hi : MO} : Ev (mSl fa lo hi) ρ cs Q ↔ Ev fa ρ cs fun x cs1 => Eo lo ρ cs1 fun l cs2 => Eo hi ρ cs2 fun u cs3 => Rd1 x cs3 fun d => wpd (dSl d l u) fun z => Q z cs3 := by
  unfold Ev Eo Rd1 mSl
  rw [wpo_bind]
  refine iff_of_eq (congrArg _ (funext fun x => funext fun cs1 => propext ?_))
  rw [wpo_bind]
  refine iff_of_eq (congrArg _ (funext fun y => funext fun cs2 => propext ?_))
  rw [wpo_bind]
  refine iff_of_eq (congrArg _ (funext fun z => funext fun cs3 => propext ?_))
  rw [wpd_bindo]
  refine iff_of_eq (congrArg _ (funext fun d => propext ?_))
  rw [wpd_mapo]
@[simp] theorem ev_mChain {p q : Int → Int → Bool} : Ev (mChain p q fa fb fc) ρ cs Q ↔ Ev fa ρ cs fun x cs1 => Ev fb ρ cs1 fun y cs2 => wpd (intOf x) fun i => wpd (intOf y) fun j => if p i j = true then Ev fc ρ cs2 fun z cs3 => wpd (intOf z) fun k => Q (db (q j k)) cs3 else Q (db false) cs2 := by
  unfold Ev mChain
  rw [wpo_bind]
  refine iff_of_eq (congrArg _ (funext fun x => funext fun cs1 => propext ?_))
  rw [wpo_bind]
  refine iff_of_eq (congrArg _ (funext fun y => funext fun cs2 => propext ?_))
  rw [wpd_bindo]
  refine iff_of_eq (congrArg _ (funext fun i => propext ?_))
  rw [wpd_bindo]
  refine iff_of_eq (congrArg _ (funext fun j => propext ?_))
  by_cases h : p i j = true
  · rw [if_pos h, if_pos h, wpo_bind]
    refine iff_of_eq (congrArg _ (funext fun z => funext fun cs3 => propext ?_))
    rw [wpd_bindo]
    exact Iff.rfl
  · rw [if_neg h, if_neg h]
    exact Iff.rfl
@[simp] theorem et_mTB : Et (mTB fa) ρ cs QT ↔ Ev fa ρ cs fun x cs1 => wpd (match x with | .dat (.bool b) => some b | _ => none) fun b => QT b cs1 := by
  unfold Et Ev mTB
  rw [wpo_bind]
  refine iff_of_eq (congrArg _ (funext fun x => funext fun cs1 => propext ?_))
  cases x with
  | dat d => cases d <;> exact Iff.rfl
  | _ => exact Iff.rfl
@[simp] theorem et_mTNot {t : MT} : Et (mTNot t) ρ cs QT ↔ Et t ρ cs fun b cs1 => QT (!b) cs1 := wpo_map
@[simp] theorem et_mTAnd {t u : MT} : Et (mTAnd t u) ρ cs QT ↔ Et t ρ cs fun b cs1 => if b = true then Et u ρ cs1 QT else QT false cs1 := by
  unfold Et mTAnd
  rw [wpo_bind]
  refine iff_of_eq (congrArg _ (funext fun b => funext fun cs1 => propext ?_))
  cases b <;> simp
@[simp] theorem et_mTOr {t u : MT} : Et (mTOr t u) ρ cs QT ↔ Et t ρ cs fun b cs1 => if b = true then QT true cs1 else Et u ρ cs1 QT := by
  unfold Et mTOr
  rw [wpo_bind]
  refine iff_of_eq (congrArg _ (funext fun b => funext fun cs1 => propext ?_))
  cases b <;> simp
@[simp] theorem et_mTru : Et (mTru fa) ρ cs QT ↔ Ev fa ρ cs fun x cs1 => Tr1 x cs1 fun b => QT b cs1 := by
  unfold Et Ev mTru Tr1 Rd1
  rw [wpo_bind]
  refine iff_of_eq (congrArg _ (funext fun x => funext fun cs1 => propext ?_))
  rw [wpd_bindo]
  refine iff_of_eq (congrArg _ (funext fun d => propext ?_))
  rw [wpd_mapo]
@[simp] theorem et_mYes : Et mYes ρ cs QT ↔ QT true cs := Iff.rfl
@[simp] theorem eg_gNm {i : Nat} {d : D} : Eg (gNm i) d ρ QR ↔ QR (ρ.set i (some (.dat d))) := Iff.rfl
@[simp] theorem eg_gTp {n : Nat} {h : MGs} {ds : List D} : Eg (gTp n h) (.tuple ds) ρ QR ↔ ds.length = n ∧ Egs h ds ρ QR := wpd_ite
@[simp] theorem egs_nil : Egs gsNil [] ρ QR ↔ QR ρ := Iff.rfl
@[simp] theorem egs_cons {h : MG} {hs : MGs} {d : D} {ds : List D} : Egs (gsCons h hs) (d :: ds) ρ QR ↔ Eg h d ρ fun ρ1 => Egs hs ds ρ1 QR := wpd_bind
@[simp] theorem es_sNil : Es sNil n0 ρ cs QS ↔ QS (.nx ρ cs) := Iff.rfl
@[simp] theorem es_sBrk : Es sBrk n0 ρ cs QS ↔ QS (.bk ρ cs) := Iff.rfl
@[simp] theorem es_sCnt : Es sCnt n0 ρ cs QS ↔ QS (.ct ρ cs) := Iff.rfl
@[simp] theorem es_sNev : Es sNev n0 ρ cs QS ↔ False := Iff.rfl
@[simp] theorem es_sRetN : Es sRetN n0 ρ cs QS ↔ QS (.rt (.dat .none) cs) := Iff.rfl
/-- go on behind -/
def Nx (n0 : Nat) (g : MS) (Q : Out → Prop) : Out → Prop
  | .nx ρ cs => Es g n0 ρ cs Q
  | o => Q o
@[simp] theorem nx_nx : Nx n0 g QS (.nx ρ cs) ↔ Es g n0 ρ cs QS := Iff.rfl
@[simp] theorem nx_rt {r : Rv} : Nx n0 g QS (.rt r cs) ↔ QS (.rt r cs) := Iff.rfl
@[simp] theorem nx_bk : Nx n0 g QS (.bk ρ cs) ↔ QS (.bk ρ cs) := Iff.rfl
@[simp] theorem nx_ct : Nx n0 g QS (.ct ρ cs) ↔ QS (.ct ρ cs) := Iff.rfl
@[simp] theorem es_sSeq : Es (sSeq f g) n0 ρ cs QS ↔ Es f n0 ρ cs (Nx n0 g QS) := by
  unfold Es sSeq
  rw [wpd_bind]
  refine iff_of_eq (congrArg _ (funext fun o => propext ?_))
  cases o <;> exact Iff.rfl
theorem wpo_bindd {α β γ : Type} {o : Option (α × β)} {k : α × β → Option γ} {Q : γ → Prop} : wpd (o.bind k) Q ↔ wpo o fun a b => wpd (k (a, b)) Q := by cases o <;> rfl
theorem wpo_mapd {α β γ : Type} {o : Option (α × β)} {k : α × β → γ} {Q : γ → Prop} : wpd (o.map k) Q ↔ wpo o fun a b => Q (k (a, b)) := by cases o <;> rfl
@[simp] theorem es_sExpr : Es (sExpr fa) n0 ρ cs QS ↔ Ev fa ρ cs fun _ cs1 => QS (.nx ρ cs1) := wpo_mapd
def DatOf (r : Rv) (Q : D → Prop) : Prop := wpd (match deg r with | .dat d => some d | _ => none) Q
@[simp] theorem datOf_dat {d : D} : DatOf (.dat d) QD ↔ QD d := Iff.rfl
@[simp] theorem datOf_fr {d : List D} : DatOf (.fr d) QD ↔ QD (.list d) := Iff.rfl
@[simp] theorem es_sSet {i : Nat} : Es (sSet i fa) n0 ρ cs QS ↔ Ev fa ρ cs fun x cs1 => DatOf x fun d => QS (.nx (ρ.set i (some (.dat d))) cs1) := by
  unfold Es Ev sSet DatOf
  rw [wpo_bindd]
  refine iff_of_eq (congrArg _ (funext fun x => funext fun cs1 => propext ?_))
  cases x <;> exact Iff.rfl
@[simp] theorem es_sOwn {i : Nat} : Es (sOwn i fa) n0 ρ cs QS ↔ Ev fa ρ cs fun x cs1 => wpd (match x with | .fr c => some c | _ => none) fun c => QS (.nx (ρ.set i (some (.own cs1.length))) (cs1 ++ [some c])) := by
  unfold Es Ev sOwn
  rw [wpo_bindd]
  refine iff_of_eq (congrArg _ (funext fun x => funext fun cs1 => propext ?_))
  cases x <;> exact Iff.rfl
@[simp] theorem es_sIf {c : MT} : Es (sIf c f g) n0 ρ cs QS ↔ Et c ρ cs fun b cs1 => if b = true then Es f n0 ρ cs1 QS else Es g n0 ρ cs1 QS := by
  unfold Es Et sIf
  rw [wpo_bindd]
  refine iff_of_eq (congrArg _ (funext fun b => funext fun cs1 => propext ?_))
  cases b <;> simp
/-- what a return hands out -/
def Ret (n0 : Nat) (r : Rv) (cs : Cs) (Q : Out → Prop) : Prop := match r with
  | .dat d => Q (.rt (.dat d) cs)
  | .fr c => Q (.rt (.own cs.length) (cs ++ [some c]))
  | .own k => n0 ≤ k ∧ Q (.rt (.own k) cs)
@[simp] theorem ret_dat {d : D} : Ret n0 (.dat d) cs QS ↔ QS (.rt (.dat d) cs) := Iff.rfl
@[simp] theorem ret_fr {c : List D} : Ret n0 (.fr c) cs QS ↔ QS (.rt (.own cs.length) (cs ++ [some c])) := Iff.rfl
@[simp] theorem ret_own {k : Nat} : Ret n0 (.own k) cs QS ↔ n0 ≤ k ∧ QS (.rt (.own k) cs) := Iff.rfl
@[simp] theorem es_sRet : Es (sRet fa) n0 ρ cs QS ↔ Ev fa ρ cs fun x cs1 => Ret n0 x cs1 QS := by
  unfold Es Ev sRet
  rw [wpo_bindd]
  refine iff_of_eq (congrArg _ (funext fun x => funext fun cs1 => propext ?_))
  cases x with
  | own k => exact wpd_ite
  | _ => exact Iff.rfl
/-- a def's result from its body's -/
def Fin (n : Nat) (Q : Rv → Cs → Prop) : Out → Prop
  | .rt (.dat d) cs' => Q (.dat d) (cs'.take n)
  | .rt (.own k) cs' => n ≤ k ∧ wpd cs'[k]?.join fun c => Q (.fr c) (cs'.take n)
  | .nx _ cs' => Q (.dat .none) (cs'.take n)
  | _ => False
@[simp] theorem fin_dat {n : Nat} {d : D} : Fin n Q (.rt (.dat d) cs) ↔ Q (.dat d) (cs.take n) := Iff.rfl
@[simp] theorem fin_own {n k : Nat} : Fin n Q (.rt (.own k) cs) ↔ n ≤ k ∧ wpd cs[k]?.join fun c => Q (.fr c) (cs.take n) := Iff.rfl
@[simp] theorem fin_nx {n : Nat} : Fin n Q (.nx ρ cs) ↔ Q (.dat .none) (cs.take n) := Iff.rfl
theorem em_fnM {n : Nat} {b : MS} {rs : List Rv} : Em (fnM n b) rs cs Q ↔ Es b cs.length (rs.map some ++ List.replicate (n - rs.length) none) cs (Fin cs.length Q) := by
  unfold Em Es fnM
  rw [wpd_bindo]
  refine iff_of_eq (congrArg _ (funext fun o => propext ?_))
  cases o with
  | rt r cs' =>
    cases r with
    | dat d => exact Iff.rfl
    | fr c => exact Iff.rfl
    | own k =>
      show wpo (if cs.length ≤ k then _ else none) Q ↔ cs.length ≤ k ∧ wpd cs'[k]?.join _
      rw [wpo_ite]
      refine and_congr_right fun _ => ?_
      cases cs'[k]? with
      | none => exact Iff.rfl
      | some x => cases x <;> exact Iff.rfl
  | nx ρ cs' => exact Iff.rfl
  | bk _ _ => exact Iff.rfl
  | ct _ _ => exact Iff.rfl
theorem em_rec {n i : Nat} {b : MF → MS} {rs : List Rv} : Em (recM n b (i + 1)) rs cs Q ↔ Em (fnM n (b (recM n b i))) rs cs Q := Iff.rfl
@[simp] theorem es_sPut {x : Nat} : Es (sPut x fb fa) n0 ρ cs QS ↔ Ev fa ρ cs fun v cs1 => wpd (cellOf ρ[x]?) fun k => Ev fb ρ cs1 fun j cs2 => wpd (intOf j) fun i => DatOf v fun d => wpd cs2[k]?.join fun c => wpd (ixN c.length i) fun j => QS (.nx ρ (cs2.set k (some (c.set j d)))) := by
  unfold Es Ev sPut DatOf
  rw [wpo_bindd]
  refine iff_of_eq (congrArg _ (funext fun v => funext fun cs1 => propext ?_))
  rw [wpd_bind]
  refine iff_of_eq (congrArg _ (funext fun k => propext ?_))
  rw [wpo_bindd]
  refine iff_of_eq (congrArg _ (funext fun j => funext fun cs2 => propext ?_))
  rw [wpd_bind]
  refine iff_of_eq (congrArg _ (funext fun i => propext ?_))
  dsimp only
  cases deg v with
  | dat d =>
    cases cs2[k]? with
    | none => exact Iff.rfl
    | some c =>
      cases c with
      | none => exact Iff.rfl
      | some c => exact wpd_map
  | _ => exact Iff.rfl
@[simp] theorem cellOf_own {k : Nat} : cellOf (some (some (.own k))) = some k := rfl
@[simp] theorem es_sApp {x : Nat} : Es (sApp x fa) n0 ρ cs QS ↔ wpd (cellOf ρ[x]?) fun k => Ev fa ρ cs fun v cs1 => DatOf v fun d => wpd cs1[k]?.join fun c => c.length < sizeLine ∧ QS (.nx ρ (cs1.set k (some (c ++ [d])))) := by
  unfold Es Ev sApp DatOf
  rw [wpd_bind]
  refine iff_of_eq (congrArg _ (funext fun k => propext ?_))
  rw [wpo_bindd]
  refine iff_of_eq (congrArg _ (funext fun v => funext fun cs1 => propext ?_))
  dsimp only
  cases deg v with
  | dat d =>
    cases cs1[k]? with
    | none => exact Iff.rfl
    | some c =>
      cases c with
      | none => exact Iff.rfl
      | some c => exact wpd_ite
  | _ => exact Iff.rfl
@[simp] theorem es_sAsg {h : MG} : Es (sAsg fa h) n0 ρ cs QS ↔ Ev fa ρ cs fun x cs1 => DatOf x fun d => Eg h d ρ fun ρ1 => QS (.nx ρ1 cs1) := by
  unfold Es Ev sAsg DatOf Eg
  rw [wpo_bindd]
  refine iff_of_eq (congrArg _ (funext fun x => funext fun cs1 => propext ?_))
  cases x with
  | own k => exact Iff.rfl
  | _ => exact wpd_map
@[simp] theorem ei_iSeq : Ei (iSeq fa) ρ cs QI ↔ Ev fa ρ cs fun x cs1 => DatOf x fun d => wpd (itemsOf d) fun ds => QI ds cs1 := by
  unfold Ei Ev iSeq DatOf
  rw [wpo_bind]
  refine iff_of_eq (congrArg _ (funext fun x => funext fun cs1 => propext ?_))
  cases x with
  | own k => exact Iff.rfl
  | _ => exact wpd_mapo
@[simp] theorem itemsOf_list {ds : List D} : itemsOf (.list ds) = some ds := rfl
@[simp] theorem itemsOf_tuple {ds : List D} : itemsOf (.tuple ds) = some ds := rfl
@[simp] theorem itemsOf_str {x : Str} : itemsOf (.str x) = some (x.cps.toList.map fun c => .str ⟨#[c]⟩) := rfl
@[simp] theorem ei_rg1 {fr : MA} : Ei (iRg1 fr) ρ cs QI ↔ Ea fr ρ cs fun rs cs1 => wpd (match intsOf rs with | some [j] => some j | _ => none) fun j => sm62 j ∧ QI (rngD 0 j.toNat) cs1 := by
  unfold Ei Ea iRg1
  rw [wpo_bind]
  refine iff_of_eq (congrArg _ (funext fun x => funext fun cs1 => propext ?_))
  dsimp only
  generalize intsOf x = o
  match o with
  | none => exact Iff.rfl
  | some [] => exact Iff.rfl
  | some [j] => exact wpo_ite
  | some (_ :: _ :: _) => exact Iff.rfl
@[simp] theorem ei_rg2 {fr : MA} : Ei (iRg2 fr) ρ cs QI ↔ Ea fr ρ cs fun rs cs1 => wpd (match intsOf rs with | some [i, j] => some (i, j) | _ => none) fun p => (sm62 p.1 ∧ sm62 p.2) ∧ QI (rngD p.1 (p.2 - p.1).toNat) cs1 := by
  unfold Ei Ea iRg2
  rw [wpo_bind]
  refine iff_of_eq (congrArg _ (funext fun x => funext fun cs1 => propext ?_))
  dsimp only
  generalize intsOf x = o
  match o with
  | none => exact Iff.rfl
  | some [] => exact Iff.rfl
  | some [_] => exact Iff.rfl
  | some [i, j] => exact wpo_ite
  | some (_ :: _ :: _ :: _) => exact Iff.rfl
@[simp] theorem intsOf_nil : intsOf [] = some [] := rfl
@[simp] theorem intsOf_cons {i : Int} {rs : List Rv} : intsOf (.dat (.int i) :: rs) = (intsOf rs).map fun is => i :: is := rfl
def zipR (rs : List Rv) : Option (List D) := match rs with
  | [.dat (.list xs), .dat (.list ys)] => some (zipD xs ys)
  | [.dat (.tuple xs), .dat (.tuple ys)] => some (zipD xs ys)
  | _ => none
@[simp] theorem zipR_l {xs ys : List D} : zipR [.dat (.list xs), .dat (.list ys)] = some (zipD xs ys) := rfl
@[simp] theorem zipR_t {xs ys : List D} : zipR [.dat (.tuple xs), .dat (.tuple ys)] = some (zipD xs ys) := rfl
theorem iZp_eq {fr : MA} : iZp fr = fun ρ cs => (fr ρ cs).bind fun p => (zipR p.1).map fun ds => (ds, p.2) := by
  funext ρ cs
  unfold iZp
  refine congrArg _ (funext fun p => ?_)
  obtain ⟨rs, cs1⟩ := p
  unfold zipR
  dsimp only
  split
  · rfl
  · rfl
  · rename_i h1 h2
    first
      | rfl
      | (split
         · exact (h1 _ _ rfl).elim
         · exact (h2 _ _ rfl).elim
         · rfl)
@[simp] theorem ei_zip {fr : MA} : Ei (iZp fr) ρ cs QI ↔ Ea fr ρ cs fun rs cs1 => wpd (zipR rs) fun ds => QI ds cs1 := by
  unfold Ei Ea
  rw [iZp_eq, wpo_bind]
  refine iff_of_eq (congrArg _ (funext fun x => funext fun cs1 => propext ?_))
  exact wpd_mapo
@[simp] theorem ei_en {fr : MA} : Ei (iEn fr) ρ cs QI ↔ Ea fr ρ cs fun rs cs1 => wpd (match rs with | [r] => lstOf r | _ => none) fun ds => QI (enumD 0 ds) cs1 := by
  unfold Ei Ea iEn
  rw [wpo_bind]
  refine iff_of_eq (congrArg _ (funext fun x => funext fun cs1 => propext ?_))
  match x with
  | [] => exact Iff.rfl
  | [r] => exact wpd_mapo
  | _ :: _ :: _ => exact Iff.rfl
@[simp] theorem lstOf_dat {ds : List D} : lstOf (.dat (.list ds)) = some ds := rfl
@[simp] theorem ea_dat {fr : MA} : Ea (aDat fa fr) ρ cs QA ↔ Ev fa ρ cs fun x cs1 => DatOf x fun d => Ea fr ρ cs1 fun rs cs2 => QA (.dat d :: rs) cs2 := by
  unfold Ev Ea aDat DatOf
  rw [wpo_bind]
  refine iff_of_eq (congrArg _ (funext fun x => funext fun cs1 => propext ?_))
  cases x with
  | own k => exact Iff.rfl
  | _ => exact wpo_map
/-- a fresh list -/
def frOf (r : Rv) : Option (List D) := match r with
  | .fr c => some c
  | _ => none
@[simp] theorem frOf_fr {c : List D} : frOf (.fr c) = some c := rfl
@[simp] theorem ea_own {fr : MA} : Ea (aOwn fa fr) ρ cs QA ↔ Ev fa ρ cs fun x cs1 => wpd (frOf x) fun c => Ea fr ρ (cs1 ++ [some c]) fun rs cs2 => QA (.own cs1.length :: rs) cs2 := by
  unfold Ev Ea aOwn
  rw [wpo_bind]
  refine iff_of_eq (congrArg _ (funext fun x => funext fun cs1 => propext ?_))
  cases x with
  | fr c => exact wpo_map
  | _ => exact Iff.rfl
def two (rs : List Rv) : Option (Rv × Rv) := match rs with
  | [r, t] => some (r, t)
  | _ => none
@[simp] theorem two_ok {r t : Rv} : two [r, t] = some (r, t) := rfl
def three (rs : List Rv) : Option (Rv × Rv × Rv) := match rs with
  | [r, t, u] => some (r, t, u)
  | _ => none
@[simp] theorem three_ok {r t u : Rv} : three [r, t, u] = some (r, t, u) := rfl
@[simp] theorem es_sParO {i j : Nat} {fr : MA} : Es (sParO i j fr) n0 ρ cs QS ↔ Ea fr ρ cs fun rs cs1 => wpd (two rs) fun p => QS (.nx ((ρ.set i (some p.1)).set j (some p.2)) cs1) := by
  unfold Es Ea sParO
  rw [wpo_bindd]
  refine iff_of_eq (congrArg _ (funext fun x => funext fun cs1 => propext ?_))
  match x with
  | [] => exact Iff.rfl
  | [_] => exact Iff.rfl
  | [_, _] => exact Iff.rfl
  | _ :: _ :: _ :: _ => exact Iff.rfl
@[simp] theorem es_sPar3 {i j l : Nat} {fr : MA} : Es (sPar3 i j l fr) n0 ρ cs QS ↔ Ea fr ρ cs fun rs cs1 => wpd (three rs) fun p => QS (.nx (((ρ.set i (some p.1)).set j (some p.2.1)).set l (some p.2.2)) cs1) := by
  unfold Es Ea sPar3
  rw [wpo_bindd]
  refine iff_of_eq (congrArg _ (funext fun x => funext fun cs1 => propext ?_))
  match x with
  | [] => exact Iff.rfl
  | [_] => exact Iff.rfl
  | [_, _] => exact Iff.rfl
  | [_, _, _] => exact Iff.rfl
  | _ :: _ :: _ :: _ :: _ => exact Iff.rfl
@[simp] theorem ev_mLR1 : Ev (mLR1 fa) ρ cs Q ↔ Ev fa ρ cs fun x cs1 => wpd (intOf x) fun n => rgOkB 0 n = true ∧ Q (.fr (rngD 0 (n - 0).toNat)) cs1 := by
  unfold Ev mLR1
  rw [wpo_bind]
  refine iff_of_eq (congrArg _ (funext fun x => funext fun cs1 => propext ?_))
  rw [wpd_bindo]
  refine iff_of_eq (congrArg _ (funext fun n => propext ?_))
  exact wpo_ite
@[simp] theorem ev_mLR2 : Ev (mLR2 fa fb) ρ cs Q ↔ Ev fa ρ cs fun x cs1 => Ev fb ρ cs1 fun y cs2 => wpd (intOf x) fun a => wpd (intOf y) fun b => rgOkB a b = true ∧ Q (.fr (rngD a (b - a).toNat)) cs2 := by
  unfold Ev mLR2
  rw [wpo_bind]
  refine iff_of_eq (congrArg _ (funext fun x => funext fun cs1 => propext ?_))
  rw [wpo_bind]
  refine iff_of_eq (congrArg _ (funext fun y => funext fun cs2 => propext ?_))
  rw [wpd_bindo]
  refine iff_of_eq (congrArg _ (funext fun n => propext ?_))
  rw [wpd_bindo]
  refine iff_of_eq (congrArg _ (funext fun m => propext ?_))
  exact wpo_ite
/-! while: by a measure, I holds ahead of each test -/
theorem wh_rule {c : MT} {b : MS} (I : Rho → Cs → Prop) (μ : Rho → Cs → Nat) (hs : ∀ ρ cs, I ρ cs → Et c ρ cs fun k cs1 => if k = true then Es b n0 ρ cs1 fun o => match o with
    | .nx ρ2 cs2 => I ρ2 cs2 ∧ μ ρ2 cs2 < μ ρ cs
    | .ct ρ2 cs2 => I ρ2 cs2 ∧ μ ρ2 cs2 < μ ρ cs
    | .bk ρ2 cs2 => QS (.nx ρ2 cs2)
    | .rt r cs2 => QS (.rt r cs2) else QS (.nx ρ cs1)) : ∀ (n : Nat) (ρ : Rho) (cs : Cs), μ ρ cs < n → I ρ cs → wpd (wh c b n0 n ρ cs) QS
  | 0, _, _, h, _ => absurd h (Nat.not_lt_zero _)
  | n + 1, ρ, cs, h, hI => by
    rw [show wh c b n0 (n + 1) ρ cs = (c ρ cs).bind fun p => if p.1 = true then (b n0 ρ p.2).bind fun o => match o with
      | .nx ρ2 cs2 => wh c b n0 n ρ2 cs2
      | .ct ρ2 cs2 => wh c b n0 n ρ2 cs2
      | .bk ρ2 cs2 => some (.nx ρ2 cs2)
      | .rt r cs2 => some (.rt r cs2)
    else some (.nx ρ p.2) from rfl, wpo_bindd]
    refine wpo_mono (hs ρ cs hI) fun k cs1 hk => ?_
    cases k with
    | false => exact hk
    | true =>
      rw [if_pos rfl] at hk
      show wpd (if true = true then _ else _) QS
      rw [if_pos rfl, wpd_bind]
      refine wpd_mono hk fun o ho => ?_
      cases o with
      | nx ρ2 cs2 => exact wh_rule I μ hs n ρ2 cs2 (by have := ho.2; omega) ho.1
      | ct ρ2 cs2 => exact wh_rule I μ hs n ρ2 cs2 (by have := ho.2; omega) ho.1
      | bk ρ2 cs2 => exact ho
      | rt r cs2 => exact ho
theorem es_sWh {c : MT} {b : MS} (I : Rho → Cs → Prop) (μ : Rho → Cs → Nat) (h0 : I ρ cs) (hs : ∀ ρ cs, I ρ cs → Et c ρ cs fun k cs1 => if k = true then Es b n0 ρ cs1 fun o => match o with
    | .nx ρ2 cs2 => I ρ2 cs2 ∧ μ ρ2 cs2 < μ ρ cs
    | .ct ρ2 cs2 => I ρ2 cs2 ∧ μ ρ2 cs2 < μ ρ cs
    | .bk ρ2 cs2 => QS (.nx ρ2 cs2)
    | .rt r cs2 => QS (.rt r cs2) else QS (.nx ρ cs1)) : Es (sWh c b) n0 ρ cs QS := by
  obtain ⟨o, e, q⟩ := wpd_iff.mp (wh_rule I μ hs (μ ρ cs + 1) ρ cs (Nat.lt_succ_self _) h0)
  exact wpd_iff.mpr ⟨o, sWh_of e, q⟩
/-! loops -/
def El (h : MG) (b : MS) (n0 : Nat) (ds : List D) (ρ : Rho) (cs : Cs) (Q : Out → Prop) : Prop := wpd (loopM h b n0 ds ρ cs) Q
@[simp] theorem es_sFor {i : MI} {h : MG} {b : MS} : Es (sFor i h b) n0 ρ cs QS ↔ Ei i ρ cs fun ds cs1 => El h b n0 ds ρ cs1 QS := wpo_bindd
@[simp] theorem el_nil {h : MG} {b : MS} : El h b n0 [] ρ cs QS ↔ QS (.nx ρ cs) := Iff.rfl
def Lp (h : MG) (b : MS) (n0 : Nat) (ds : List D) (Q : Out → Prop) : Out → Prop
  | .nx ρ cs => El h b n0 ds ρ cs Q
  | .ct ρ cs => El h b n0 ds ρ cs Q
  | .bk ρ cs => Q (.nx ρ cs)
  | .rt r cs => Q (.rt r cs)
theorem el_cons {h : MG} {b : MS} {d : D} {ds : List D} : El h b n0 (d :: ds) ρ cs QS ↔ Eg h d ρ fun ρ1 => Es b n0 ρ1 cs (Lp h b n0 ds QS) := by
  unfold El Eg Es
  rw [show loopM h b n0 (d :: ds) ρ cs = (h d ρ).bind fun ρ1 => (b n0 ρ1 cs).bind fun o => match o with
    | .nx ρ2 cs2 => loopM h b n0 ds ρ2 cs2
    | .ct ρ2 cs2 => loopM h b n0 ds ρ2 cs2
    | .bk ρ2 cs2 => some (.nx ρ2 cs2)
    | .rt r cs2 => some (.rt r cs2) from rfl, wpd_bind]
  refine iff_of_eq (congrArg _ (funext fun ρ1 => propext ?_))
  rw [wpd_bind]
  refine iff_of_eq (congrArg _ (funext fun o => propext ?_))
  cases o <;> exact Iff.rfl
theorem el_inv {h : MG} {b : MS} (I : Nat → Rho → Cs → Prop) : ∀ {ds : List D} {k : Nat} {ρ : Rho} {cs : Cs}, I k ρ cs → (∀ (i : Nat) (d : D) (ρ : Rho) (cs : Cs), ds[i]? = some d → I (k + i) ρ cs → Eg h d ρ fun ρ1 => Es b n0 ρ1 cs fun o => match o with
    | .nx ρ2 cs2 => I (k + i + 1) ρ2 cs2
    | .ct ρ2 cs2 => I (k + i + 1) ρ2 cs2
    | .bk ρ2 cs2 => QS (.nx ρ2 cs2)
    | .rt r cs2 => QS (.rt r cs2)) → (∀ ρ cs, I (k + ds.length) ρ cs → QS (.nx ρ cs)) → El h b n0 ds ρ cs QS
  | [], k, ρ, cs, h0, _, h2 => h2 ρ cs h0
  | d :: ds, k, ρ, cs, h0, h1, h2 => by
    rw [el_cons]
    refine wpd_mono (h1 0 d ρ cs rfl h0) fun ρ1 e1 => wpd_mono e1 fun o e2 => ?_
    have go : ∀ ρ2 cs2, I (k + 1) ρ2 cs2 → El h b n0 ds ρ2 cs2 QS := fun ρ2 cs2 i2 => el_inv I (k := k + 1) i2 (fun i d' ρ cs hi hI => by
      have := h1 (i + 1) d' ρ cs (by simpa using hi) (by rw [show k + (i + 1) = k + 1 + i by omega]; exact hI)
      rw [show k + (i + 1) = k + 1 + i by omega] at this
      exact this) fun ρ cs hI => h2 ρ cs (by rw [List.length_cons, show k + (ds.length + 1) = k + 1 + ds.length by omega]; exact hI)
    cases o with
    | nx ρ2 cs2 => exact go ρ2 cs2 e2
    | ct ρ2 cs2 => exact go ρ2 cs2 e2
    | bk ρ2 cs2 => exact e2
    | rt r cs2 => exact e2
/-! comprehensions -/
def Ec (h : MG) (t : MT) (f : ME) (ds : List D) (ρ : Rho) (cs : Cs) (acc : List D) (Q : List D → Cs → Prop) : Prop := wpo (compM h t f ds ρ cs acc) Q
@[simp] theorem ev_xComp {i : MI} {h : MG} {t : MT} {vs : List Nat} : Ev (xComp i h t fa vs) ρ cs Q ↔ Ei i ρ cs fun ds cs1 => Ec h t fa ds (wipeR ρ vs) cs1 [] fun l cs2 => Q (.fr l) cs2 := by
  unfold Ev Ei Ec xComp
  rw [wpo_bind]
  refine iff_of_eq (congrArg _ (funext fun x => funext fun cs1 => propext ?_))
  exact wpo_map
@[simp] theorem ec_nil {h : MG} {t : MT} {acc : List D} {Q : List D → Cs → Prop} : Ec h t fa [] ρ cs acc Q ↔ Q acc cs := Iff.rfl
/-- one turn of a comprehension, the new list's cell last -/
theorem ec_cons {h : MG} {t : MT} {d : D} {ds acc : List D} {Q : List D → Cs → Prop} (e : Eg h d ρ fun ρ1 => Et t ρ1 (cs ++ [some acc]) fun b cs2 => if b = true then Ev fa ρ1 cs2 fun r cs3 => DatOf r fun x => ∃ cs4 c, cs3 = cs4 ++ [some c] ∧ cs4.length = cs.length ∧ c.length < sizeLine ∧ Ec h t fa ds ρ cs4 (c ++ [x]) Q
    else ∃ cs4 c, cs2 = cs4 ++ [some c] ∧ cs4.length = cs.length ∧ Ec h t fa ds ρ cs4 c Q) : Ec h t fa (d :: ds) ρ cs acc Q := by
  unfold Ec
  rw [show compM h t fa (d :: ds) ρ cs acc = (h d ρ).bind fun ρ1 => (t ρ1 (cs ++ [some acc])).bind fun p => if p.1 = true then (fa ρ1 p.2).bind fun q => match deg q.1, q.2[cs.length]? with
      | .dat e, some (some c) => if c.length < sizeLine then compM h t fa ds ρ (q.2.take cs.length) (c ++ [e]) else none
      | _, _ => none
    else match p.2[cs.length]? with
      | some (some c) => compM h t fa ds ρ (p.2.take cs.length) c
      | _ => none from rfl, wpd_bindo]
  refine wpd_mono e fun ρ1 e1 => ?_
  rw [wpo_bind]
  refine wpo_mono e1 fun b cs2 e2 => ?_
  cases b with
  | true =>
    rw [if_pos rfl] at e2
    show wpo (if true = true then _ else _) _
    rw [if_pos rfl, wpo_bind]
    refine wpo_mono e2 fun r cs3 e3 => ?_
    obtain ⟨x, ex, cs4, c, rfl, hl, hz, e4⟩ := wpd_iff.mp e3
    have er : deg r = .dat x := by
      cases q : deg r with
      | dat d => rw [q] at ex; exact congrArg Rv.dat (Option.some.inj ex)
      | own k => rw [q] at ex; cases ex
      | fr c => rw [q] at ex; cases ex
    have e5 : (cs4 ++ [some c])[cs.length]? = some (some c) := by rw [← hl]; simp
    have e6 : (cs4 ++ [some c]).take cs.length = cs4 := by rw [← hl]; simp
    dsimp only
    rw [er, e5]
    dsimp only
    rw [if_pos hz, e6]
    exact e4
  | false =>
    have e2' : ∃ cs4 c, cs2 = cs4 ++ [some c] ∧ cs4.length = cs.length ∧ Ec h t fa ds ρ cs4 c Q := e2
    obtain ⟨cs4, c, rfl, hl, e4⟩ := e2'
    have e5 : (cs4 ++ [some c])[cs.length]? = some (some c) := by rw [← hl]; simp
    have e6 : (cs4 ++ [some c]).take cs.length = cs4 := by rw [← hl]; simp
    dsimp only
    rw [if_neg (by decide), e5]
    dsimp only
    rw [e6]
    exact e4
/-- a comprehension that changes no cell: filter and map -/
theorem ec_pure {h : MG} {t : MT} (P : D → Bool) (F : D → D) {Q : List D → Cs → Prop} : ∀ {ds acc : List D}, (∀ d ∈ ds, ∀ cs', Eg h d ρ fun ρ1 => Et t ρ1 cs' fun b cs2 => b = P d ∧ cs2 = cs' ∧ (P d = true → Ev fa ρ1 cs' fun r cs3 => cs3 = cs' ∧ DatOf r fun x => x = F d)) → acc.length + ds.length ≤ sizeLine → Q (acc ++ (ds.filter P).map F) cs → Ec h t fa ds ρ cs acc Q
  | [], acc, _, _, q => by simpa using q
  | d :: ds, acc, hd, hz, q => by
    refine ec_cons (wpd_mono (hd d (List.mem_cons_self ..) (cs ++ [some acc])) fun ρ1 e1 => wpo_mono e1 fun b cs2 e2 => ?_)
    obtain ⟨rfl, rfl, e3⟩ := e2
    rw [List.length_cons] at hz
    have hd' := fun d' h' => hd d' (List.mem_cons_of_mem _ h')
    by_cases hp : P d = true
    · rw [if_pos hp]
      refine wpo_mono (e3 hp) fun r cs3 e4 => ?_
      obtain ⟨rfl, e5⟩ := e4
      refine wpd_mono e5 fun x ex => ?_
      subst ex
      refine ⟨cs, acc, rfl, rfl, by omega, ec_pure P F hd' (by rw [List.length_append]; simp; omega) ?_⟩
      rw [List.filter_cons_of_pos hp, List.map_cons] at q
      rw [List.append_assoc]
      exact q
    · rw [if_neg hp]
      refine ⟨cs, acc, rfl, rfl, ec_pure P F hd' (by omega) ?_⟩
      rw [List.filter_cons_of_neg hp] at q
      exact q
/-- a comprehension by an invariant: I turn, the list so far, the cells without it -/
theorem ec_inv {h : MG} {t : MT} (I : Nat → List D → Cs → Prop) {Q : List D → Cs → Prop} : ∀ {ds : List D} {k : Nat} {acc : List D} {cs : Cs}, I k acc cs → (∀ (i : Nat) (d : D) (acc : List D) (cs : Cs), ds[i]? = some d → I (k + i) acc cs → Eg h d ρ fun ρ1 => Et t ρ1 (cs ++ [some acc]) fun b cs2 => if b = true then Ev fa ρ1 cs2 fun r cs3 => DatOf r fun x => ∃ cs4 c, cs3 = cs4 ++ [some c] ∧ cs4.length = cs.length ∧ c.length < sizeLine ∧ I (k + i + 1) (c ++ [x]) cs4
    else ∃ cs4 c, cs2 = cs4 ++ [some c] ∧ cs4.length = cs.length ∧ I (k + i + 1) c cs4) → (∀ acc cs, I (k + ds.length) acc cs → Q acc cs) → Ec h t fa ds ρ cs acc Q
  | [], k, acc, cs, h0, _, h2 => h2 acc cs h0
  | d :: ds, k, acc, cs, h0, h1, h2 => by
    have go : ∀ c cs4, I (k + 1) c cs4 → Ec h t fa ds ρ cs4 c Q := fun c cs4 i2 => ec_inv I (k := k + 1) i2 (fun i d' acc cs hi hI => by
      have := h1 (i + 1) d' acc cs (by simpa using hi) (by rw [show k + (i + 1) = k + 1 + i by omega]; exact hI)
      rw [show k + (i + 1) = k + 1 + i by omega] at this
      exact this) fun acc cs hI => h2 acc cs (by rw [List.length_cons, show k + (ds.length + 1) = k + 1 + ds.length by omega]; exact hI)
    refine ec_cons (wpd_mono (h1 0 d acc cs rfl h0) fun ρ1 e1 => wpo_mono e1 fun b cs2 e2 => ?_)
    by_cases hb : b = true
    · rw [if_pos hb] at e2 ⊢
      refine wpo_mono e2 fun r cs3 e3 => wpd_mono e3 fun x e4 => ?_
      obtain ⟨cs4, c, a1, a2, a3, a4⟩ := e4
      exact ⟨cs4, c, a1, a2, a3, go _ _ a4⟩
    · rw [if_neg hb] at e2 ⊢
      obtain ⟨cs4, c, a1, a2, a4⟩ := e2
      exact ⟨cs4, c, a1, a2, go _ _ a4⟩
end
end DL
namespace My
open PySem PySem.Spec PyProof.Rows L2 DL
def b__law_hash : MS :=
  (sSeq (sSet 2 (mB dMod (mCall dInt (aCons (mB dAdd (mB dAdd (mB dAdd (mB dMul (xVar 0) (xC (.int 1140671))) (mB dMul (mB dMul (xC (.int 27644437)) (xVar 1)) (xVar 1))) (mB dMul (xC (.int 131)) (xVar 1))) (xC (.int 19))) aNil)) (xC (.int 2147483629))))
  (sSeq (sSet 2 (mB dMod (mCall dInt (aCons (mB dAdd (mB dAdd (mB dMul (xVar 2) (xVar 2)) (mB dMul (xC (.int 62089)) (xVar 1))) (xC (.int 32416187))) aNil)) (xC (.int 2147483587))))
  (sRet (mB dMod (mCall dInt (aCons (mB dMul (xVar 2) (xC (.int 48271))) aNil)) (xC (.int 2147483647))))))
def m__law_hash : MF := fnM 3 b__law_hash
def b__law_cell : MS :=
  (sSeq (sIf (mTB (mB dLt (xVar 1) (mCall dLen (aCons (xVar 0) aNil)))) (sRet (mB dIx (xVar 0) (xVar 1))) sNil)
  (sRet (mB dMod (mCall dSum (aCons (mSl (xVar 0) oNone (oSome (xC (.int 1)))) aNil)) (xC (.int 1000003)))))
def m__law_cell : MF := fnM 2 b__law_cell
def b__law_generator : MS :=
  (sSeq (sSet 2 (mCallF 2 m__law_cell (aCons (xVar 0) (aCons (xVar 1) aNil))))
  (sRet (xLst (aCons (mB dMod (mCall dInt (aCons (mCall dMax2 (aCons (mB dSub (xVar 2) (mB dPow (xC (.int 10)) (xC (.int 18)))) (aCons (xC (.int 0)) aNil))) aNil)) (mB dPow (mB dPow (xC (.int 10)) (xC (.int 60))) (xC (.int 10)))) (aCons (mB dMod (mCall dInt (aCons (xVar 2) aNil)) (xC (.int 2147483647))) (aCons (mB dMul (xC (.int 1000)) (xVar 1)) aNil))))))
def m__law_generator : MF := fnM 3 b__law_generator
def b__law_random : MS :=
  (sSeq (sIf (mTB (mB dGt (mB dIx (xVar 0) (xC (.int 0))) (xC (.int 0)))) (sSeq (sSet 2 (mB dMod (mCall dInt (aCons (mB dIx (xVar 0) (xC (.int 0))) aNil)) (xVar 1)))
  (sSeq (sPut 0 (xC (.int 0)) (mB dDiv (mB dIx (xVar 0) (xC (.int 0))) (xVar 1)))
  (sRet (xVar 2)))) sNil)
  (sSeq (sSet 2 (xC (.int 0)))
  (sSeq (sFor (iRg1 (aCons (mB dAdd (xC (.int 1)) (mB dDiv (mU dBits (xVar 1)) (xC (.int 30)))) aNil)) (gNm 3) (sSeq (sPut 0 (xC (.int 2)) (mB dAdd (mB dIx (xVar 0) (xC (.int 2))) (xC (.int 1))))
  (sSet 2 (mB dAdd (mB dMul (xVar 2) (xC (.int 2147483587))) (mCallF 2 m__law_hash (aCons (mB dIx (xVar 0) (xC (.int 1))) (aCons (mB dIx (xVar 0) (xC (.int 2))) aNil)))))))
  (sRet (mB dMod (mCall dInt (aCons (xVar 2) aNil)) (xVar 1))))))
def m__law_random : MF := fnM 4 b__law_random
def b__law_pick : MS :=
  (sRet (mB dIx (xVar 1) (mCallF 2 m__law_random (aCons (xVar 0) (aCons (mCall dLen (aCons (xVar 1) aNil)) aNil)))))
def m__law_pick : MF := fnM 2 b__law_pick
end My
namespace My
open PySem PySem.Spec PyProof.Rows L2 DL
theorem log2_le {n a : Nat} (h : n < 2 ^ a) : n.log2 ≤ a := by
  by_cases h0 : n = 0
  · subst h0; exact Nat.zero_le _
  · exact Nat.le_of_lt ((Nat.log2_lt h0).mpr h)
theorem cml {i j : Int} (a b : Nat) (h1 : i.natAbs < 2 ^ a) (h2 : j.natAbs < 2 ^ b) (h : a + b < 100000000 := by decide) : CMl i j := by
  have := log2_le h1
  have := log2_le h2
  show _ + _ < _
  omega
theorem lg_mul {i j : Int} {a b : Nat} (h1 : i.natAbs < 2 ^ a) (h2 : j.natAbs < 2 ^ b) : (i * j).natAbs < 2 ^ (a + b) := by
  rw [Int.natAbs_mul, Nat.pow_add]
  exact Nat.mul_lt_mul'' h1 h2
theorem fmod_b {x m : Int} (hm : 0 < m) : 0 ≤ x.fmod m ∧ x.fmod m < m := ⟨Int.fmod_nonneg_of_pos x hm, Int.fmod_lt_of_pos x hm⟩
theorem abs_lt {x : Int} {a : Nat} (h0 : 0 ≤ x) (h1 : x < 2 ^ a) : x.natAbs < 2 ^ a := by
  have e : ((2 ^ a : Nat) : Int) = (2 : Int) ^ a := by simp
  omega
theorem hash_em {s i : Int} {cs : Cs} {Q : Rv → Cs → Prop} (hs : s.natAbs < 2 ^ 100) (hi : i.natAbs < 2 ^ 100) (h : ∀ z : Int, 0 ≤ z → z < 2147483647 → Q (di z) cs) : Em m__law_hash [.dat (.int s), .dat (.int i)] cs Q := by
  unfold m__law_hash
  rw [em_fnM]
  simp [b__law_hash, dMul, dAdd, dMod, dI, dInt]
  generalize e1 : (s * 1140671 + 27644437 * i * i + 131 * i + 19).fmod 2147483629 = x
  have b1 := fmod_b (x := s * 1140671 + 27644437 * i * i + 131 * i + 19) (m := 2147483629) (by decide)
  rw [e1] at b1
  have x1 : x.natAbs < 2 ^ 32 := abs_lt b1.1 (by omega)
  generalize e2 : (x * x + 62089 * i + 32416187).fmod 2147483587 = y
  have b2 := fmod_b (x := x * x + 62089 * i + 32416187) (m := 2147483587) (by decide)
  rw [e2] at b2
  have y1 : y.natAbs < 2 ^ 32 := abs_lt b2.1 (by omega)
  have b3 := fmod_b (x := y * 48271) (m := 2147483647) (by decide)
  exact ⟨cml 100 32 hs (by decide), cml 32 100 (by decide) hi, cml 132 100 (lg_mul (a := 32) (b := 100) (by decide) hi) hi, cml 32 100 (by decide) hi, cml 32 32 x1 x1, cml 32 100 (by decide) hi, cml 32 32 y1 (by decide), h _ b3.1 b3.2⟩
/-- a generator's cell -/
structure Gs (b : Int) (c : List D) : Prop where
  ex : ∃ g0 g1 g2 : Int, c = [.int g0, .int g1, .int g2] ∧ 0 ≤ g0 ∧ g0 < 10 ^ 600 ∧ 0 ≤ g1 ∧ g1 < 2147483647 ∧ 0 ≤ g2 ∧ g2 ≤ b
theorem Gs.mono {b b' : Int} {c : List D} (g : Gs b c) (h : b ≤ b') : Gs b' c := by
  obtain ⟨g0, g1, g2, e, h0, h1, h2, h3, h4, h5⟩ := g.ex
  exact ⟨g0, g1, g2, e, h0, h1, h2, h3, h4, by omega⟩
theorem ix_own {c : List D} {k : Nat} {cs : Cs} {i : Int} {Q : Rv → Cs → Prop} (h : cs[k]? = some (some c)) : O2 dIx (.own k) (.dat (.int i)) cs Q ↔ wpd (dIx (.list c) (.int i)) fun z => Q z cs := o2_od h
theorem at3_0 {α : Type} {a b c : α} : atI [a, b, c] 0 = some a := rfl
theorem at3_1 {α : Type} {a b c : α} : atI [a, b, c] 1 = some b := rfl
theorem at3_2 {α : Type} {a b c : α} : atI [a, b, c] 2 = some c := rfl
theorem ixN_nat {n : Nat} {i : Int} (h0 : 0 ≤ i) (h1 : i < n) : ixN n i = some i.toNat := by
  unfold ixN
  rw [if_pos h0, if_pos h1]
theorem atI_nat {α : Type} {xs : List α} {i : Int} (h0 : 0 ≤ i) (h1 : i < xs.length) : atI xs i = some (xs[i.toNat]'(by omega)) := by
  unfold atI
  rw [ixN_nat h0 h1]
  show xs[i.toNat]? = _
  rw [List.getElem?_eq_getElem]
theorem random_em {k : Nat} {n b : Int} {cs : Cs} {c : List D} {Q : Rv → Cs → Prop} (hc : cs[k]? = some (some c)) (hg : Gs b c) (hb : b ≤ 10 ^ 20) (hn : 0 < n) (hn2 : n < 2 ^ 2900) (h : ∀ (r : Int) (c' : List D), 0 ≤ r → r < n → Gs (b + 100) c' → Q (di r) (cs.set k (some c'))) : Em m__law_random [.own k, .dat (.int n)] cs Q := by
  obtain ⟨g0, g1, g2, rfl, h0, h1, h2, h3, h4, h5⟩ := hg.ex
  have hk : k < cs.length := (List.getElem?_eq_some_iff.mp hc).1
  unfold m__law_random
  rw [em_fnM]
  simp [b__law_random, ix_own hc, dIx, at3_0, dGt, dCmp]
  by_cases hg0 : 0 < g0
  · rw [if_pos hg0]
    have dv : CDv g0 n := ⟨by omega, by have := log2_le (abs_lt (Int.le_of_lt hn) hn2); omega⟩
    have q0 : 0 ≤ g0.fdiv n := Int.fdiv_nonneg h0 (Int.le_of_lt hn)
    have q1 : g0.fdiv n ≤ g0 := by
      rw [Int.fdiv_eq_ediv_of_nonneg g0 (Int.le_of_lt hn)]
      exact Int.ediv_le_self n h0
    have fb := fmod_b (x := g0) hn
    have e3 : ixN 3 0 = some 0 := rfl
    simp [dInt, dMod, dI, ix_own hc, dIx, at3_0, dDiv, hc, dv, e3, show n ≠ 0 by omega, List.take_of_length_le]
    exact h _ _ fb.1 fb.2 ⟨g0.fdiv n, g1, g2, rfl, q0, by omega, h2, h3, h4, by omega⟩
  · rw [if_neg hg0]
    have bz : Builtin.Int.intBits n ≤ 2900 := PyProof.Rows.intBits_le (abs_lt (Int.le_of_lt hn) hn2)
    have dv : ∀ x : Int, CDv x 30 := fun x => ⟨by decide, by decide⟩
    have eq : ((Builtin.Int.intBits n : Int)).fdiv 30 = ((Builtin.Int.intBits n / 30 : Nat) : Int) := by
      rw [Int.fdiv_eq_ediv_of_nonneg _ (by decide)]
      rfl
    generalize ht : Builtin.Int.intBits n / 30 = t at eq
    have ht2 : t ≤ 97 := by omega
    simp [dBits, dDiv, dI, dv, dAdd, eq]
    refine ⟨by constructor <;> omega, ?_⟩
    have ej : ((1 : Int) + (t : Int)).toNat = t + 1 := by omega
    rw [ej]
    refine el_inv (fun i ρ cs1 => ∃ (dr : Int) (x3 : Option Rv), ρ = [some (Rv.own k), some (Rv.dat (PyData.int n)), some (Rv.dat (PyData.int dr)), x3] ∧ cs1 = cs.set k (some [.int g0, .int g1, .int (g2 + i)]) ∧ 0 ≤ dr ∧ dr < 2 ^ (32 * (i + 1))) (k := 0) ⟨0, none, rfl, ?_, Int.le_refl _, by decide⟩ ?_ ?_
    · apply List.ext_getElem?
      intro j
      by_cases hj : k = j
      · subst hj
        rw [List.getElem?_set_self hk, hc]
        simp
      · rw [List.getElem?_set_ne hj]
    · rintro i d ρ cs1 hi ⟨dr, x3, rfl, rfl, d0, d1⟩
      simp only [Nat.zero_add] at d1 ⊢
      have hi2 : i < t + 1 := by
        have := (List.getElem?_eq_some_iff.mp hi).1
        simpa [rngD] using this
      have hcs : ∀ g : List D, (cs.set k (some g))[k]? = some (some g) := fun g => List.getElem?_set_self hk
      have e2 : ixN 3 2 = some 2 := rfl
      have ga : (g2 + (i : Int) + 1).natAbs < 2 ^ 100 := abs_lt (by omega) (by omega)
      simp [ix_own (hcs _), dIx, at3_1, at3_2, dAdd, hcs, e2, dMul]
      have P : (2 : Int) ^ (32 * (i + 1 + 1)) = 2 ^ (32 * (i + 1)) * 4294967296 := by
        rw [show 32 * (i + 1 + 1) = 32 * (i + 1) + 32 by omega, Int.pow_add]
        rfl
      refine ⟨cml (32 * (i + 1)) 32 (abs_lt d0 d1) (by decide) (by omega), ?_⟩
      refine hash_em (abs_lt h2 (by omega)) ga fun z z0 z1 => ?_
      simp [dAdd]
      refine ⟨by rw [Int.add_assoc], by omega, ?_⟩
      rw [P]
      generalize (2 : Int) ^ (32 * (i + 1)) = p at d1 ⊢
      omega
    · rintro ρ cs1 ⟨dr, x3, rfl, rfl, d0, d1⟩
      have fb := fmod_b (x := dr) hn
      simp [dInt, dMod, dI, show n ≠ 0 by omega]
      rw [List.take_of_length_le (by simp)]
      refine h _ _ fb.1 fb.2 ⟨g0, g1, _, rfl, h0, h1, h2, h3, ?_, ?_⟩
      · simp [rngD]; omega
      · simp [rngD]; omega
theorem pick_em {k : Nat} {b : Int} {cs : Cs} {c ds : List D} {Q : Rv → Cs → Prop} (hc : cs[k]? = some (some c)) (hg : Gs b c) (hb : b ≤ 10 ^ 20) (hn : ds ≠ []) (hn2 : ds.length < 10 ^ 9) (h : ∀ (d : D) (c' : List D), d ∈ ds → Gs (b + 100) c' → Q (.dat d) (cs.set k (some c'))) : Em m__law_pick [.own k, .dat (.list ds)] cs Q := by
  have hl : 0 < ds.length := List.length_pos_iff.mpr hn
  unfold m__law_pick
  rw [em_fnM]
  simp [b__law_pick, dLen]
  refine random_em hc hg hb (by omega) (Int.lt_trans (show (ds.length : Int) < 10 ^ 9 by omega) (by decide)) fun r c' r0 r1 hg' => ?_
  simp [dIx, atI_nat r0 r1]
  rw [List.take_of_length_le (by simp)]
  exact h _ _ (List.getElem_mem _) hg'
theorem pickS_em {k : Nat} {b : Int} {cs : Cs} {c : List D} {x : Str} {Q : Rv → Cs → Prop} (hc : cs[k]? = some (some c)) (hg : Gs b c) (hb : b ≤ 10 ^ 20) (hn : 0 < x.length) (hn2 : x.length < 10 ^ 9) (h : ∀ (y : Nat) (c' : List D), y ∈ x.cps.toList → Gs (b + 100) c' → Q (.dat (.str ⟨#[y]⟩)) (cs.set k (some c'))) : Em m__law_pick [.own k, .dat (.str x)] cs Q := by
  unfold m__law_pick
  rw [em_fnM]
  simp [b__law_pick, dLen]
  refine random_em hc hg hb (by omega) (Int.lt_trans (show (x.length : Int) < 10 ^ 9 by omega) (by decide)) fun r c' r0 r1 hg' => ?_
  have r1' : r < (x.cps.toList.length : Int) := by rw [Array.length_toList]; exact r1
  simp only [o2_dd, dIx, atI_nat r0 r1', wpd_some, Option.map_some, ret_dat, fin_dat]
  rw [List.take_of_length_le (by simp)]
  exact h _ _ (List.getElem_mem _) hg'
theorem cell_em {i : Int} {ns : List Int} {cs : Cs} {Q : Rv → Cs → Prop} (hi : 0 ≤ i) (hb : ∀ z ∈ ns, Builtin.Int.intBits z ≤ 1048576) (hl : ns.length ≤ 1000) (h : ∀ z : Int, Q (di z) cs) : Em m__law_cell [.dat (.list (ns.map .int)), .dat (.int i)] cs Q := by
  unfold m__law_cell
  rw [em_fnM]
  simp [b__law_cell, dLen, dLt, dCmp]
  by_cases hlt : i < (ns.length : Int)
  · rw [if_pos hlt]
    have hlt' : i < ((ns.map PyData.int).length : Int) := by simpa using hlt
    simp only [o2_dd, dIx, atI_nat hi hlt', wpd_some, Option.map_some, ret_dat, fin_dat, List.getElem_map, nx_rt, List.take_length]
    exact h _
  · rw [if_neg hlt]
    have ic : ∀ l : List Int, intsD (l.map PyData.int) = some l := fun l => by
      induction l with
      | nil => rfl
      | cons a l ih =>
        show (intsD (l.map PyData.int)).map _ = _
        rw [ih]; rfl
    have ec : DL.cutD (ns.map PyData.int) none (some 1) = ((ns.take 1).map PyData.int) := by
      cases ns with
      | nil => rfl
      | cons a l =>
        unfold DL.cutD HT.sIx
        rw [List.length_map]
        simp
    have ic2 : intsD (List.take 1 (ns.map PyData.int)) = some (ns.take 1) := by rw [← List.map_take, ic]
    simp [dSl, ec, dSum, dMod, dI, ic2]
    exact h _
theorem generator_em {i : Int} {ns : List Int} {cs : Cs} {Q : Rv → Cs → Prop} (hi : 0 ≤ i) (hi2 : i ≤ 10 ^ 9) (hb : ∀ z ∈ ns, Builtin.Int.intBits z ≤ 1048576) (hl : ns.length ≤ 1000) (h : ∀ c : List D, Gs (1000 * i) c → Q (.fr c) cs) : Em m__law_generator [.dat (.list (ns.map .int)), .dat (.int i)] cs Q := by
  unfold m__law_generator
  rw [em_fnM]
  simp [b__law_generator]
  refine cell_em hi hb hl fun z => ?_
  simp [dInt, dMax2, dMod, dSub, dPow, dI, dMul]
  refine ⟨by decide, by decide, by decide, cml 10 30 (by decide) (abs_lt hi (by omega)), by rw [sizeLine_eq]; decide, ?_⟩
  generalize (if z - 1000000000000000000 < 0 then 0 else z - 1000000000000000000) = y
  have f1 := fmod_b (x := y) (m := 10 ^ 600) (by decide)
  have f2 := fmod_b (x := z) (m := 2147483647) (by decide)
  exact h _ ⟨_, _, _, rfl, f1.1, f1.2, f2.1, f2.2, by omega, by omega⟩
end My
namespace My
open PySem PySem.Spec PyProof.Rows L2 DL
def b_is_whole : MS :=
  (sRet (mAnd (mU (dIsi "int") (xVar 0)) (mU dNot (mU (dIsi "bool") (xVar 0)))))
def m_is_whole : MF := fnM 1 b_is_whole
noncomputable def b_common_of : MS :=
  (sSeq (sParO 0 1 (aDat (mCall dAbs (aCons (xVar 0) aNil)) (aDat (mCall dAbs (aCons (xVar 1) aNil)) aNil)))
  (sSeq (sWh (mTB (mB dGt (xVar 1) (xC (.int 0)))) (sParO 0 1 (aDat (xVar 1) (aDat (mB dMod (xVar 0) (xVar 1)) aNil))))
  (sRet (xVar 0))))
noncomputable def m_common_of : MF := fnM 2 b_common_of
noncomputable def b_is_fraction : MS :=
  (sSeq (sIf (mTOr (mTNot (mTru (mU (dIsi "tuple") (xVar 0)))) (mTOr (mTB (mB dNe (mCall dLen (aCons (xVar 0) aNil)) (xC (.int 2)))) (mTOr (mTNot (mTru (mCallF 1 m_is_whole (aCons (mB dIx (xVar 0) (xC (.int 0))) aNil)))) (mTNot (mTru (mCallF 1 m_is_whole (aCons (mB dIx (xVar 0) (xC (.int 1))) aNil))))))) (sRet (xC (.bool false))) sNil)
  (sRet (mAnd (mB dGe (mB dIx (xVar 0) (xC (.int 1))) (xC (.int 1))) (mB dEq (mCallF 2 m_common_of (aCons (mB dIx (xVar 0) (xC (.int 0))) (aCons (mB dIx (xVar 0) (xC (.int 1))) aNil))) (xC (.int 1))))))
noncomputable def m_is_fraction : MF := fnM 1 b_is_fraction
noncomputable def b_lowest_of : MS :=
  (sSeq (sSet 2 (mCallF 2 m_common_of (aCons (xVar 0) (aCons (xVar 1) aNil))))
  (sSeq (sIf (mTB (mB dLt (xVar 1) (xC (.int 0)))) (sSet 2 (mB dSub (xC (.int 0)) (xVar 2))) sNil)
  (sRet (xTup (aCons (mB dDiv (xVar 0) (xVar 2)) (aCons (mB dDiv (xVar 1) (xVar 2)) aNil))))))
noncomputable def m_lowest_of : MF := fnM 3 b_lowest_of
noncomputable def b_plus_of : MS :=
  (sRet (mCallF 2 m_lowest_of (aCons (mB dAdd (mB dMul (mB dIx (xVar 0) (xC (.int 0))) (mB dIx (xVar 1) (xC (.int 1)))) (mB dMul (mB dIx (xVar 1) (xC (.int 0))) (mB dIx (xVar 0) (xC (.int 1))))) (aCons (mB dMul (mB dIx (xVar 0) (xC (.int 1))) (mB dIx (xVar 1) (xC (.int 1)))) aNil))))
noncomputable def m_plus_of : MF := fnM 2 b_plus_of
noncomputable def b_times_of : MS :=
  (sRet (mCallF 2 m_lowest_of (aCons (mB dMul (mB dIx (xVar 0) (xC (.int 0))) (mB dIx (xVar 1) (xC (.int 0)))) (aCons (mB dMul (mB dIx (xVar 0) (xC (.int 1))) (mB dIx (xVar 1) (xC (.int 1)))) aNil))))
noncomputable def m_times_of : MF := fnM 2 b_times_of
end My
namespace My
open PySem PySem.Spec PyProof.Rows L2 DL
/-! fractions: what the shared defs compute -/
theorem fem_eq {m : MF} {rs : List Rv} {cs cs' : Cs} {z : Rv} (h : Em m rs cs fun r c => r = z ∧ c = cs') : m rs cs = some (z, cs') := by
  obtain ⟨a, b, e, rfl, rfl⟩ := wpo_iff.mp h
  exact e
theorem fem_of {m : MF} {rs : List Rv} {cs cs' : Cs} {z : Rv} {Q : Rv → Cs → Prop} (e : m rs cs = some (z, cs')) (h : Q z cs') : Em m rs cs Q := wpo_of e h
theorem fisi_tuple (d : D) : dIsi "tuple" d = some (db (match d with | .tuple _ => true | _ => false)) := by cases d <;> rfl
theorem fisi_int (d : D) : dIsi "int" d = some (db (match d with | .int _ => true | .bool _ => true | _ => false)) := by cases d <;> rfl
theorem fisi_bool (d : D) : dIsi "bool" d = some (db (match d with | .bool _ => true | _ => false)) := by cases d <;> rfl
theorem fdEq_int {i j : Int} : dEq (.int i) (.int j) = some (db (i == j)) := by
  unfold dEq
  rw [if_pos ⟨rfl, rfl, by show min 0 0 ≤ 100; decide⟩]
  rfl
theorem fdNe_int {i j : Int} : dNe (.int i) (.int j) = some (db (!(i == j))) := by
  unfold dNe
  rw [if_pos ⟨rfl, rfl, by show min 0 0 ≤ 100; decide⟩]
  rfl
theorem dGt_int {i j : Int} : dGt (.int i) (.int j) = some (db (decide (j < i))) := rfl
theorem dLt_int {i j : Int} : dLt (.int i) (.int j) = some (db (decide (i < j))) := rfl
theorem dGe_int {i j : Int} : dGe (.int i) (.int j) = some (db (decide (j ≤ i))) := rfl
theorem dSub_int {i j : Int} : dSub (.int i) (.int j) = some (di (i - j)) := rfl
theorem dAdd_int {i j : Int} : dAdd (.int i) (.int j) = some (di (i + j)) := rfl
theorem dMul_int {i j : Int} (h : CMl i j) : dMul (.int i) (.int j) = some (di (i * j)) := if_pos h
theorem dDiv_int {i j : Int} (h : CDv i j) : dDiv (.int i) (.int j) = some (di (i.fdiv j)) := if_pos h
theorem dMod_int {i j : Int} (h : j ≠ 0) : dMod (.int i) (.int j) = some (di (i.fmod j)) := if_pos h
theorem dAbs_int {i : Int} : dAbs [.int i] = some (di (i.natAbs : Int)) := by
  show some (di (if i < 0 then -i else i)) = _
  congr 3
  split <;> omega
def wholeB : D → Bool
  | .int _ => true
  | _ => false
theorem is_whole_eq {d : D} {cs : Cs} : m_is_whole [.dat d] cs = some (db (wholeB d), cs) := by
  refine fem_eq ?_
  unfold m_is_whole
  rw [em_fnM]
  unfold b_is_whole
  cases d <;> simp [fisi_int, fisi_bool, dNot, wholeB]
/-- the measure of the Euclid loop -/
def muE (ρ : Rho) (_ : Cs) : Nat := match ρ with
  | [_, some (.dat (.int y))] => y.toNat
  | _ => 0
theorem common_eq {a b : Int} {cs : Cs} : m_common_of [.dat (.int a), .dat (.int b)] cs = some (di (Int.gcd a b), cs) := by
  refine fem_eq ?_
  unfold m_common_of
  rw [em_fnM]
  unfold b_common_of
  simp [dAbs_int]
  refine es_sWh (fun ρ c => ∃ x y : Nat, ρ = [some (di x), some (di y)] ∧ c = cs ∧ Nat.gcd x y = Int.gcd a b) muE ⟨a.natAbs, b.natAbs, rfl, rfl, rfl⟩ ?_
  rintro ρ c ⟨x, y, rfl, rfl, h⟩
  by_cases hy : 0 < y
  · have hy' : (y : Int) ≠ 0 := by omega
    have e : (x : Int).fmod y = ((x % y : Nat) : Int) := by rw [Int.fmod_eq_emod_of_nonneg _ (by omega)]; rfl
    simp [dGt_int, hy, dMod_int hy', e, muE]
    refine ⟨⟨y, x % y, ⟨rfl, by omega⟩, ?_⟩, ?_⟩
    · rw [← h, Nat.gcd_comm x y, Nat.gcd_rec y x, Nat.gcd_comm]
    · have := Nat.mod_lt x hy
      omega
  · have : y = 0 := by omega
    subst this
    simp [dGt_int]
    rw [← h]
    simp
/-- the parts of a / b in lowest terms -/
def nfA (a b : Int) : Int := (b.sign * a) / (Int.gcd a b : Int)
def nfB (a b : Int) : Int := (b.natAbs : Int) / (Int.gcd a b : Int)
theorem gcd_pos {a b : Int} (h : b ≠ 0) : 0 < Int.gcd a b := Nat.gcd_pos_of_pos_right _ (Int.natAbs_pos.mpr h)
theorem gcd_le {a b : Int} (h : b ≠ 0) : Int.gcd a b ≤ b.natAbs := Nat.gcd_le_right _ (Int.natAbs_pos.mpr h)
theorem fdiv_pos {a g : Int} (h : 0 < g) : a.fdiv g = a / g := Int.fdiv_eq_ediv_of_nonneg a (Int.le_of_lt h)
theorem fdiv_neg' {a g : Int} (h : 0 < g) (hd : g ∣ a) : a.fdiv (-g) = (-a) / g := by
  obtain ⟨k, rfl⟩ := hd
  have e : (g * k).fdiv (-g) = -k := by
    rw [show g * k = (-g) * (-k) by rw [Int.neg_mul_neg], Int.mul_fdiv_cancel_left _ (by omega)]
  rw [e, show -(g * k) = g * (-k) by rw [Int.mul_neg], Int.mul_ediv_cancel_left _ (by omega)]
theorem lowest_eq {a b : Int} {cs : Cs} (hb : b ≠ 0) (hz : b.natAbs < 2 ^ 8000) : m_lowest_of [.dat (.int a), .dat (.int b)] cs = some (.dat (.tuple [.int (nfA a b), .int (nfB a b)]), cs) := by
  have g0 := gcd_pos (a := a) hb
  have g1 : Int.gcd a b < 2 ^ 8000 := Nat.lt_of_le_of_lt (gcd_le hb) hz
  have two : 2 ≤ sizeLine := by rw [sizeLine_eq]; decide
  have dv : ∀ x : Int, CDv x (Int.gcd a b : Int) := fun x => ⟨by omega, by
    have := log2_le g1
    show (Int.gcd a b : Int).natAbs.log2 < 9000
    rw [Int.natAbs_natCast]
    omega⟩
  have dvn : ∀ x : Int, CDv x (-(Int.gcd a b : Int)) := fun x => ⟨by omega, by
    have := log2_le g1
    show (-(Int.gcd a b : Int)).natAbs.log2 < 9000
    rw [Int.natAbs_neg, Int.natAbs_natCast]
    omega⟩
  have gi : (0 : Int) < (Int.gcd a b : Int) := by omega
  refine fem_eq ?_
  unfold m_lowest_of
  rw [em_fnM]
  unfold b_lowest_of
  simp
  refine fem_of common_eq ?_
  by_cases hn : b < 0
  · have s : b.sign = -1 := Int.sign_eq_neg_one_of_neg hn
    have e1 : a.fdiv (-(Int.gcd a b : Int)) = nfA a b := by
      rw [fdiv_neg' gi (Int.gcd_dvd_left ..)]
      unfold nfA
      rw [s, Int.neg_one_mul]
    have e2 : b.fdiv (-(Int.gcd a b : Int)) = nfB a b := by
      rw [fdiv_neg' gi (Int.gcd_dvd_right ..)]
      unfold nfB
      rw [show (b.natAbs : Int) = -b by omega]
    simp [dLt_int, hn, dSub_int, dDiv_int (dvn _), e1, e2, two]
  · have s : b.sign = 1 := Int.sign_eq_one_of_pos (by omega)
    have e1 : a.fdiv (Int.gcd a b : Int) = nfA a b := by
      rw [fdiv_pos gi]
      unfold nfA
      rw [s, Int.one_mul]
    have e2 : b.fdiv (Int.gcd a b : Int) = nfB a b := by
      rw [fdiv_pos gi]
      unfold nfB
      rw [show (b.natAbs : Int) = b by omega]
    simp [dLt_int, hn, dDiv_int (dv _), e1, e2, two]
def fracB : D → Bool
  | .tuple [.int p, .int q] => decide (1 ≤ q) && ((Int.gcd p q : Int) == 1)
  | _ => false
theorem dIx_t0 {a b : D} : dIx (.tuple [a, b]) (.int 0) = some (.dat a) := rfl
theorem dIx_t1 {a b : D} : dIx (.tuple [a, b]) (.int 1) = some (.dat b) := rfl
theorem is_fraction_eq {d : D} {cs : Cs} : m_is_fraction [.dat d] cs = some (db (fracB d), cs) := by
  refine fem_eq ?_
  unfold m_is_fraction
  rw [em_fnM]
  unfold b_is_fraction
  cases d with
  | tuple ds =>
    match ds with
    | [] => simp [fisi_tuple, dLen, fdNe_int, fracB]
    | [_] => simp [fisi_tuple, dLen, fdNe_int, fracB]
    | x :: y :: z :: r =>
      have e : ((((x :: y :: z :: r).length : Nat) : Int) == 2) = false := by
        rw [beq_eq_false_iff_ne]
        simp only [List.length_cons]
        omega
      simp [fisi_tuple, dLen, fdNe_int, fracB]
      intro h
      exfalso
      have := Int.natCast_nonneg r.length
      omega
    | [x, y] =>
      simp [fisi_tuple, dLen, fdNe_int, dIx_t0, dIx_t1]
      refine fem_of is_whole_eq ?_
      simp
      by_cases hx : ∃ p, x = .int p
      · obtain ⟨p, rfl⟩ := hx
        rw [show wholeB (.int p) = true from rfl, if_pos rfl]
        refine fem_of is_whole_eq ?_
        by_cases hy : ∃ q, y = .int q
        · obtain ⟨q, rfl⟩ := hy
          simp [wholeB, dGe_int]
          by_cases h1 : 1 ≤ q
          · simp [h1]
            refine fem_of common_eq ?_
            simp [fdEq_int, fracB, h1]
          · simp [h1, fracB]
        · have : wholeB y = false := by
            cases y with
            | int q => exact absurd ⟨q, rfl⟩ hy
            | _ => rfl
          simp [this]
          cases y with
          | int q => exact absurd ⟨q, rfl⟩ hy
          | _ => rfl
      · have : wholeB x = false := by
          cases x with
          | int q => exact absurd ⟨q, rfl⟩ hx
          | _ => rfl
        rw [this, if_neg (by decide)]
        cases x with
        | int q => exact absurd ⟨q, rfl⟩ hx
        | _ => rfl
  | _ => simp [fisi_tuple, fracB]
theorem pow_le {n a b : Nat} (h : n < 2 ^ a) (hab : a ≤ b) : n < 2 ^ b := Nat.lt_of_lt_of_le h (Nat.pow_le_pow_right (by decide) hab)
theorem lg_add {i j : Int} {a : Nat} (h1 : i.natAbs < 2 ^ a) (h2 : j.natAbs < 2 ^ a) : (i + j).natAbs < 2 ^ (a + 1) := by
  rw [Nat.pow_succ]
  omega
theorem times_eq {p1 q1 p2 q2 : Int} {n : Nat} {cs : Cs} (h1 : p1.natAbs < 2 ^ n) (h2 : q1.natAbs < 2 ^ n) (h3 : p2.natAbs < 2 ^ n) (h4 : q2.natAbs < 2 ^ n) (hq1 : q1 ≠ 0) (hq2 : q2 ≠ 0) (hn : n ≤ 4000) :
    m_times_of [.dat (.tuple [.int p1, .int q1]), .dat (.tuple [.int p2, .int q2])] cs = some (.dat (.tuple [.int (nfA (p1 * p2) (q1 * q2)), .int (nfB (p1 * p2) (q1 * q2))]), cs) := by
  refine fem_eq ?_
  unfold m_times_of
  rw [em_fnM]
  unfold b_times_of
  simp [dIx_t0, dIx_t1, dMul_int (cml n n h1 h3 (by omega)), dMul_int (cml n n h2 h4 (by omega))]
  refine fem_of (lowest_eq (Int.mul_ne_zero hq1 hq2) (pow_le (lg_mul h2 h4) (by omega))) ?_
  simp
theorem plus_eq {p1 q1 p2 q2 : Int} {n : Nat} {cs : Cs} (h1 : p1.natAbs < 2 ^ n) (h2 : q1.natAbs < 2 ^ n) (h3 : p2.natAbs < 2 ^ n) (h4 : q2.natAbs < 2 ^ n) (hq1 : q1 ≠ 0) (hq2 : q2 ≠ 0) (hn : n ≤ 4000) :
    m_plus_of [.dat (.tuple [.int p1, .int q1]), .dat (.tuple [.int p2, .int q2])] cs = some (.dat (.tuple [.int (nfA (p1 * q2 + p2 * q1) (q1 * q2)), .int (nfB (p1 * q2 + p2 * q1) (q1 * q2))]), cs) := by
  refine fem_eq ?_
  unfold m_plus_of
  rw [em_fnM]
  unfold b_plus_of
  simp [dIx_t0, dIx_t1, dMul_int (cml n n h1 h4 (by omega)), dMul_int (cml n n h3 h2 (by omega)), dMul_int (cml n n h2 h4 (by omega)), dAdd_int]
  refine fem_of (lowest_eq (Int.mul_ne_zero hq1 hq2) (pow_le (lg_mul h2 h4) (by omega))) ?_
  simp
theorem nfB_pos {a b : Int} (h : b ≠ 0) : 0 < nfB a b := by
  have g0 := gcd_pos (a := a) h
  have g1 := gcd_le (a := a) h
  unfold nfB
  rw [← Int.natCast_ediv]
  have := Nat.div_pos g1 g0
  omega
theorem nfB_le {a b : Int} (h : b ≠ 0) : (nfB a b).natAbs ≤ b.natAbs := by
  unfold nfB
  rw [← Int.natCast_ediv, Int.natAbs_natCast]
  exact Nat.div_le_self _ _
theorem nfA_le {a b : Int} : (nfA a b).natAbs ≤ a.natAbs := by
  unfold nfA
  refine Nat.le_trans (Int.natAbs_ediv_le_natAbs _ _) ?_
  rw [Int.natAbs_mul]
  have : b.sign.natAbs ≤ 1 := by
    rcases Int.lt_trichotomy b 0 with h | h | h
    · rw [Int.sign_eq_neg_one_of_neg h]; decide
    · subst h; decide
    · rw [Int.sign_eq_one_of_pos h]; decide
  exact Nat.le_trans (Nat.mul_le_mul_right _ this) (by omega)
theorem nf_gcd {a b : Int} (h : b ≠ 0) : Int.gcd (nfA a b) (nfB a b) = 1 := by
  have g0 := gcd_pos (a := a) h
  have s1 : b.sign.natAbs = 1 := by
    rcases Int.lt_trichotomy b 0 with h' | h' | h'
    · rw [Int.sign_eq_neg_one_of_neg h']; rfl
    · exact absurd h' h
    · rw [Int.sign_eq_one_of_pos h']; rfl
  have eA : (nfA a b).natAbs = a.natAbs / Int.gcd a b := by
    unfold nfA
    rw [Int.natAbs_ediv_of_dvd (Int.dvd_mul_of_dvd_right (Int.gcd_dvd_left ..)), Int.natAbs_mul, s1, Nat.one_mul, Int.natAbs_natCast]
  have eB : (nfB a b).natAbs = b.natAbs / Int.gcd a b := by
    unfold nfB
    rw [← Int.natCast_ediv, Int.natAbs_natCast]
  show Nat.gcd (nfA a b).natAbs (nfB a b).natAbs = 1
  rw [eA, eB]
  exact Nat.gcd_div_gcd_div_gcd_of_pos_right (Int.natAbs_pos.mpr h)
theorem nf_frac {a b : Int} (h : b ≠ 0) : fracB (.tuple [.int (nfA a b), .int (nfB a b)]) = true := by
  show (decide (1 ≤ nfB a b) && ((Int.gcd (nfA a b) (nfB a b) : Int) == 1)) = true
  rw [nf_gcd h, decide_eq_true (by have := nfB_pos (a := a) h; omega)]
  rfl
/-- a fraction in lowest terms stays -/
theorem nf_of {p q : Int} (h1 : 0 < q) (h2 : Int.gcd p q = 1) : nfA p q = p ∧ nfB p q = q := by
  unfold nfA nfB
  rw [h2, Int.sign_eq_one_of_pos h1]
  constructor
  · simp
  · simp; omega
theorem nf_neg {a b : Int} : nfA (-a) (-b) = nfA a b ∧ nfB (-a) (-b) = nfB a b := by
  unfold nfA nfB
  rw [Int.gcd_neg, Int.neg_gcd, Int.sign_neg, Int.neg_mul_neg, Int.natAbs_neg]
  exact ⟨rfl, rfl⟩
theorem nf_mul {a b k : Int} (hk : 0 < k) (hb : b ≠ 0) : nfA (a * k) (b * k) = nfA a b ∧ nfB (a * k) (b * k) = nfB a b := by
  have hk' : k.natAbs ≠ 0 := by omega
  have e : Int.gcd (a * k) (b * k) = Int.gcd a b * k.natAbs := Int.gcd_mul_right ..
  have ek : ((k.natAbs : Nat) : Int) = k := by omega
  unfold nfA nfB
  rw [e, Int.sign_mul, Int.sign_eq_one_of_pos hk, Int.mul_one, Int.natAbs_mul, Int.natCast_mul, Int.natCast_mul, ek, ← Int.mul_assoc]
  exact ⟨Int.mul_ediv_mul_of_pos_left _ _ hk, Int.mul_ediv_mul_of_pos_left _ _ hk⟩
end My
namespace My
open PySem PySem.Spec PyProof.Rows L2 DL
/-! Euclid's steps: how many -/
def eu1 (p : Nat × Nat) : Nat × Nat := if 0 < p.2 then (p.2, p.1 % p.2) else (p.1, 0)
def eu : Nat → Nat × Nat → Nat × Nat
  | 0, p => p
  | n + 1, p => eu n (eu1 p)
theorem eu_succ : ∀ (n : Nat) (p : Nat × Nat), eu (n + 1) p = eu1 (eu n p)
  | 0, _ => rfl
  | n + 1, p => by
    show eu (n + 1) (eu1 p) = eu1 (eu n (eu1 p))
    exact eu_succ n (eu1 p)
theorem eu1_gcd (p : Nat × Nat) : Nat.gcd (eu1 p).1 (eu1 p).2 = Nat.gcd p.1 p.2 := by
  unfold eu1
  split
  · show Nat.gcd p.2 (p.1 % p.2) = _
    rw [Nat.gcd_comm p.1 p.2, Nat.gcd_rec p.2 p.1, Nat.gcd_comm]
  · have : p.2 = 0 := by omega
    rw [this]
theorem eu_gcd : ∀ (n : Nat) (p : Nat × Nat), Nat.gcd (eu n p).1 (eu n p).2 = Nat.gcd p.1 p.2
  | 0, _ => rfl
  | n + 1, p => by
    show Nat.gcd (eu n (eu1 p)).1 (eu n (eu1 p)).2 = _
    rw [eu_gcd n, eu1_gcd]
def fib : Nat → Nat
  | 0 => 0
  | 1 => 1
  | n + 2 => fib n + fib (n + 1)
theorem eu_zero : ∀ (n : Nat) (x : Nat), (eu n (x, 0)).2 = 0
  | 0, _ => rfl
  | n + 1, x => eu_zero n x
theorem lame : ∀ (n a b : Nat), 0 < (eu n (a, b)).2 → fib (n + 1) ≤ b ∧ (b ≤ a → fib (n + 2) ≤ a)
  | 0, a, b, h => by
    have h' : 0 < b := h
    exact ⟨h', fun hb => by show 0 + 1 ≤ a; omega⟩
  | n + 1, a, b, h => by
    have hb : 0 < b := by
      rcases Nat.eq_zero_or_pos b with h0 | h0
      · subst h0
        have := eu_zero (n + 1) a
        omega
      · exact h0
    have e : eu (n + 1) (a, b) = eu n (b, a % b) := by
      show eu n (eu1 (a, b)) = _
      unfold eu1
      rw [if_pos hb]
    rw [e] at h
    obtain ⟨h1, h2⟩ := lame n b (a % b) h
    have hm := Nat.mod_lt a hb
    have h3 := h2 (Nat.le_of_lt hm)
    refine ⟨h3, fun hba => ?_⟩
    have : b + a % b ≤ a := by
      have q1 := Nat.div_add_mod a b
      have q2 : 1 ≤ a / b := Nat.div_pos hba hb
      have q3 : b * 1 ≤ b * (a / b) := Nat.mul_le_mul_left b q2
      omega
    show fib (n + 1) + fib (n + 2) ≤ a
    omega
theorem fib_mono : ∀ n, fib n ≤ fib (n + 1)
  | 0 => Nat.zero_le _
  | 1 => Nat.le_refl _
  | n + 2 => by
    have h1 : fib n ≤ fib (n + 1) := fib_mono n
    have h2 : fib (n + 1) ≤ fib (n + 2) := fib_mono (n + 1)
    show fib n + fib (n + 1) ≤ fib (n + 1) + fib (n + 2)
    omega
theorem fib_ten : ∀ d, 10 ^ d ≤ fib (5 * d + 2)
  | 0 => Nat.le_refl 1
  | d + 1 => by
    have ih := fib_ten d
    have m := fib_mono (5 * d + 1)
    have m0 := fib_mono (5 * d)
    rw [show 5 * (d + 1) + 2 = 5 * d + 2 + 5 by omega, Nat.pow_succ]
    have e2 : fib (5 * d + 2) = fib (5 * d) + fib (5 * d + 1) := rfl
    have e3 : fib (5 * d + 3) = fib (5 * d + 1) + fib (5 * d + 2) := rfl
    have e4 : fib (5 * d + 4) = fib (5 * d + 2) + fib (5 * d + 3) := rfl
    have e5 : fib (5 * d + 5) = fib (5 * d + 3) + fib (5 * d + 4) := rfl
    have e6 : fib (5 * d + 6) = fib (5 * d + 4) + fib (5 * d + 5) := rfl
    have e7 : fib (5 * d + 2 + 5) = fib (5 * d + 5) + fib (5 * d + 6) := rfl
    omega
theorem eu_done {a b d : Nat} (h : b < 10 ^ d) : (eu (5 * d + 1) (a, b)).2 = 0 := by
  rcases Nat.eq_zero_or_pos (eu (5 * d + 1) (a, b)).2 with h0 | h0
  · exact h0
  · have h1 : fib (5 * d + 2) ≤ b := (lame _ a b h0).1
    have h2 := fib_ten d
    omega
theorem eu_end {a b d : Nat} (h : b < 10 ^ d) : eu (5 * d + 1) (a, b) = (Nat.gcd a b, 0) := by
  have h1 := eu_done (a := a) h
  have h2 := eu_gcd (5 * d + 1) (a, b)
  rw [h1, Nat.gcd_zero_right] at h2
  exact Prod.ext h2 h1
end My
namespace My
open PySem PySem.Spec PyProof.Rows L2 DL
def b__law_copied (self : MF) : MS :=
  (sSeq (sIf (mTru (mU (dIsi "list") (xVar 0))) (sRet (xComp (iSeq (xVar 0)) (gNm 1) mYes (mCallF 1 self (aCons (xVar 1) aNil)) [1])) sNil)
  (sSeq (sIf (mTru (mU (dIsi "tuple") (xVar 0))) (sRet (mCall dTuple (aCons (xComp (iSeq (xVar 0)) (gNm 1) mYes (mCallF 1 self (aCons (xVar 1) aNil)) [1]) aNil))) sNil)
  (sRet (mIf (mTru (mU (dIsi "dict") (xVar 0))) (mCall dDict (aCons (xComp (iSeq (xVar 0)) (gNm 2) mYes (xTup (aCons (xVar 2) (aCons (mCallF 1 self (aCons (mB dDGet (xVar 0) (xVar 2)) aNil)) aNil))) [2]) aNil)) (xVar 0)))))
def m__law_copied : MF := recM 3 b__law_copied 6
def b__law_exact (self : MF) : MS :=
  (sSeq (sIf (mTru (mU (dIsi "list") (xVar 1))) (sRet (mAnd (mU (dIsi "list") (xVar 0)) (mAnd (mB dEq (mCall dLen (aCons (xVar 0) aNil)) (mCall dLen (aCons (xVar 1) aNil))) (mB dNotIn (xC (.bool false)) (xComp (iZp (aCons (xVar 0) (aCons (xVar 1) aNil))) (gTp 2 (gsCons (gNm 2) (gsCons (gNm 3) gsNil))) mYes (mCallF 2 self (aCons (xVar 2) (aCons (xVar 3) aNil))) [2, 3]))))) sNil)
  (sSeq (sIf (mTru (mU (dIsi "tuple") (xVar 1))) (sRet (mAnd (mU (dIsi "tuple") (xVar 0)) (mAnd (mB dEq (mCall dLen (aCons (xVar 0) aNil)) (mCall dLen (aCons (xVar 1) aNil))) (mB dNotIn (xC (.bool false)) (xComp (iZp (aCons (xVar 0) (aCons (xVar 1) aNil))) (gTp 2 (gsCons (gNm 2) (gsCons (gNm 3) gsNil))) mYes (mCallF 2 self (aCons (xVar 2) (aCons (xVar 3) aNil))) [2, 3]))))) sNil)
  (sSeq (sIf (mTB (mB (dIs id) (xVar 1) (xC .none))) (sRet (mB (dIs id) (xVar 0) (xC .none))) sNil)
  (sSeq (sIf (mTB (mB (dIs id) (xVar 1) (xC (.bool true)))) (sRet (mB (dIs id) (xVar 0) (xC (.bool true)))) sNil)
  (sSeq (sIf (mTB (mB (dIs id) (xVar 1) (xC (.bool false)))) (sRet (mB (dIs id) (xVar 0) (xC (.bool false)))) sNil)
  (sSeq (sIf (mTru (mU (dIsi "int") (xVar 1))) (sRet (mAnd (mU (dIsi "int") (xVar 0)) (mAnd (mU dNot (mU (dIsi "bool") (xVar 0))) (mB dEq (xVar 0) (xVar 1))))) sNil)
  (sRet (mAnd (mU (dIsi "str") (xVar 0)) (mB dEq (xVar 0) (xVar 1))))))))))
def m__law_exact : MF := recM 4 b__law_exact 6
def b__law_any : MS :=
  (sSeq (sSet 1 (xLst (aCons (xC .none) (aCons (xC (.bool true)) (aCons (xC (.bool false)) (aCons (xC (.int 0)) (aCons (xC (.int 1)) (aCons (mU dNeg (xC (.int 1))) (aCons (mB dPow (xC (.int 10)) (xC (.int 11))) (aCons (xC (.str "")) (aCons (xC (.str "a")) (aCons (xC (.str "A")) (aCons (xC (.str "ab")) (aCons (xC (.str "a b")) (aCons (xC (.str "1a")) (aCons (xC (.str "a1")) (aCons (xC (.str " ")) (aCons (xC (.str "a\n")) (aCons (mB dMul (xC (.str "z")) (xC (.int 20))) (aCons (mB dMul (xC (.str "z")) (xC (.int 21))) (aCons (xC (.str "abcdefgh")) (aCons (xC (.str "abcdefghi")) aNil))))))))))))))))))))))
  (sSeq (sSet 1 (mB dAdd (xVar 1) (xLst (aCons (xLst aNil) (aCons (xTup aNil) (aCons (xC (.dict [])) (aCons (xLst (aCons (xC (.int 0)) aNil)) (aCons (xLst (aCons (xC (.int 1)) (aCons (xC (.int 0)) aNil))) (aCons (xLst (aCons (xC (.int 0)) (aCons (xC (.str "a")) aNil))) (aCons (xLst (aCons (xC (.str "a")) (aCons (xC (.int 0)) aNil))) (aCons (xLst (aCons (xC .none) (aCons (xC (.int 0)) aNil))) (aCons (xLst (aCons (xC (.int 0)) (aCons (xLst (aCons (xC (.int 1)) aNil)) aNil))) (aCons (xLst (aCons (xC (.int 0)) (aCons (xTup (aCons (xC (.int 1)) aNil)) aNil))) (aCons (xLst (aCons (xC (.bool true)) aNil)) (aCons (xLst (aCons (xC (.int 0)) (aCons (xC (.int 1)) aNil))) (aCons (xLst (aCons (xC (.int 0)) (aCons (xC (.int 0)) aNil))) (aCons (xTup (aCons (xC (.int 0)) (aCons (xC (.int 1)) aNil))) (aCons (xLst (aCons (xC (.str "a")) aNil)) (aCons (xLst (aCons (xLst aNil) aNil)) aNil)))))))))))))))))))
  (sSeq (sSet 1 (mB dAdd (xVar 1) (xLst (aCons (xC (.dict [((.str "a"), (.int 1))])) (aCons (xLst (aCons (xC (.int 1)) (aCons (xC (.int 2)) (aCons (mB dPow (xC (.int 10)) (xC (.int 11))) aNil)))) (aCons (xLst (aCons (mU dNeg (xC (.int 1))) aNil)) (aCons (xC (.str "a_b")) (aCons (xC (.str "aB")) (aCons (mB dMul (xC (.str "a")) (xC (.int 200))) (aCons (xC (.str "e0")) (aCons (xC (.str "0")) (aCons (xC (.str "house")) (aCons (xTup (aCons (xC (.str "house")) aNil)) aNil)))))))))))))
  (sRet (mCallF 1 m__law_copied (aCons (mCallF 2 m__law_pick (aCons (xVar 0) (aCons (xVar 1) aNil))) aNil))))))
def m__law_any : MF := fnM 2 b__law_any
/-! plain facts -/
theorem em_eq {m : MF} {rs : List Rv} {cs cs' : Cs} {z : Rv} (h : Em m rs cs fun r c => r = z ∧ c = cs') : m rs cs = some (z, cs') := by
  obtain ⟨a, b, e, rfl, rfl⟩ := wpo_iff.mp h
  exact e
theorem em_of {m : MF} {rs : List Rv} {cs cs' : Cs} {z : Rv} {Q : Rv → Cs → Prop} (e : m rs cs = some (z, cs')) (h : Q z cs') : Em m rs cs Q := wpo_of e h
theorem plain_all : ∀ {l : List D}, PyData.plainAll l = true ↔ ∀ d ∈ l, d.plain = true
  | [] => by simp [PyData.plainAll]
  | x :: xs => by
    rw [PyData.plainAll, Bool.and_eq_true, plain_all]
    simp
theorem eqv_nil (l : List D) : PyData.eqv (.list l) (.list []) = l.isEmpty := by
  cases l <;> simp [PyData.eqv, PyData.eqvAll]
theorem dEq_nil {l : List D} (h : PyData.plainAll l = true) : dEq (.list l) (.list []) = some (db l.isEmpty) := by
  unfold dEq
  rw [if_pos ⟨h, rfl, Nat.le_trans (Nat.min_le_right _ _) (by decide)⟩, eqv_nil]
theorem dNe_nil {l : List D} (h : PyData.plainAll l = true) : dNe (.list l) (.list []) = some (db (!l.isEmpty)) := by
  unfold dNe
  rw [if_pos ⟨h, rfl, Nat.le_trans (Nat.min_le_right _ _) (by decide)⟩, eqv_nil]
theorem dEq_int {i j : Int} : dEq (.int i) (.int j) = some (db (i == j)) := by
  unfold dEq
  rw [if_pos ⟨rfl, rfl, by show min 0 0 ≤ 100; decide⟩]
  rfl
theorem isi_str (d : D) : dIsi "str" d = some (db (match d with | .str _ => true | _ => false)) := by cases d <;> rfl
theorem isi_list (d : D) : dIsi "list" d = some (db (match d with | .list _ => true | _ => false)) := by cases d <;> rfl
theorem isi_tuple (d : D) : dIsi "tuple" d = some (db (match d with | .tuple _ => true | _ => false)) := by cases d <;> rfl
theorem isi_dict (d : D) : dIsi "dict" d = some (db (match d with | .dict _ => true | _ => false)) := by cases d <;> rfl
theorem isi_int (d : D) : dIsi "int" d = some (db (match d with | .int _ => true | .bool _ => true | _ => false)) := by cases d <;> rfl
theorem isi_bool (d : D) : dIsi "bool" d = some (db (match d with | .bool _ => true | _ => false)) := by cases d <;> rfl
def SmS (d : D) : Prop := ∀ x, d = .str x → x.length ≤ sizeLine
def isS (d : D) : Bool := match d with
  | .str _ => true
  | _ => false
theorem rng_mem {lo : Int} {n : Nat} {d : D} (h : d ∈ rngD lo n) : ∃ i : Nat, i < n ∧ d = .int (lo + i) := by
  obtain ⟨i, h1, rfl⟩ := List.mem_map.mp h
  exact ⟨i, List.mem_range.mp h1, rfl⟩
theorem rng_len {lo : Int} {n : Nat} : (rngD lo n).length = n := by simp [rngD]
theorem rng_plain {lo : Int} {n : Nat} : PyData.plainAll (rngD lo n) = true := by
  rw [plain_all]
  intro d hd
  obtain ⟨i, _, rfl⟩ := rng_mem hd
  rfl
theorem plain_filter {l : List D} {P : D → Bool} (h : PyData.plainAll l = true) : PyData.plainAll (l.filter P) = true := by
  rw [plain_all] at h ⊢
  exact fun d hd => h d (List.mem_filter.mp hd).1
/-- what may be judged -/
structure Gd (d : D) : Prop where
  ok : rOk d = true
  sm : SmS d
  li : ∀ ds, d = .list ds → ds.length ≤ sizeLine ∧ PyData.plainAll ds = true ∧ ∀ x ∈ ds, SmS x
theorem notin_bools {l : List D} (h : ∀ d ∈ l, d = .bool true) : dNotIn (.bool false) (.list l) = some (db true) := by
  unfold dNotIn
  rw [if_pos (c := CIn (.bool false) (.list l)) ⟨plain_all.mpr fun d hd => by rw [h d hd]; rfl, rfl, Nat.le_trans (Nat.min_le_right _ _) (by show 0 ≤ 100; decide)⟩]
  have e : inD (.bool false) (.list l) = false := by
    show (l.any fun y => PyData.eqv y (.bool false)) = false
    rw [List.any_eq_false]
    intro d hd
    rw [h d hd]
    decide
  rw [e]
  rfl
theorem dEq_str {x y : Str} : dEq (.str x) (.str y) = some (db (x == y)) := by
  unfold dEq
  rw [if_pos ⟨rfl, rfl, by show min 0 0 ≤ 100; decide⟩]
  rfl
theorem repr_ok {d : D} (h : rOk d = true) : dRepr [d] = some (.dat (.str d.shown)) := if_pos h
theorem two_fit : 2 ≤ sizeLine := by rw [sizeLine_eq]; decide
theorem pick0 {r : Rv} : pick [0] [r] = [r] := rfl
/-- a small plain thing -/
def flB : D → Bool
  | .none => true
  | .bool _ => true
  | .int i => decide (i.natAbs < 10 ^ 40)
  | .str x => decide (x.length ≤ 1000) && x.cps.toList.all fun c => decide (c < 16 ^ 8)
  | _ => false
theorem ofs_len (x : String) : (Str.ofString x).length = x.length := PySem.ofString_length x
theorem fl_show {d : D} (h : flB d = true) : d.showable = true := by
  cases d with
  | int i =>
    have h' : i.natAbs < 10 ^ 40 := of_decide_eq_true h
    have : i.natAbs.log2 ≤ 133 := log2_le (Nat.lt_trans h' (by decide))
    show decide _ = true
    exact decide_eq_true (by omega)
  | list _ => cases h
  | tuple _ => cases h
  | dict _ => cases h
  | _ => rfl
theorem fl_leaf {d : D} (h : flB d = true) : d.leavesShort 41 = true := by
  cases d with
  | int i =>
    have h' : i.natAbs < 10 ^ 40 := of_decide_eq_true h
    have := PySem.int_text_length_le10 (k := 40) (by decide) h'
    show decide ((PyData.shown (.int i)).length ≤ 41) = true
    refine decide_eq_true ?_
    show (Str.ofString (toString i)).length ≤ 41
    rw [ofs_len]
    exact this
  | str x => exact (Bool.and_eq_true_iff.mp h).2
  | list _ => cases h
  | tuple _ => cases h
  | dict _ => cases h
  | _ => rfl
theorem fl_bulk {d : D} (h : flB d = true) : d.bulk ≤ 1000 := by
  cases d with
  | str x => exact of_decide_eq_true (Bool.and_eq_true_iff.mp h).1
  | list _ => cases h
  | tuple _ => cases h
  | dict _ => cases h
  | _ => exact Nat.zero_le _
theorem fl_depth {d : D} (h : flB d = true) : d.depth = 0 := by
  cases d with
  | list _ => cases h
  | tuple _ => cases h
  | dict _ => cases h
  | _ => rfl
theorem fl_dict {d : D} (h : flB d = true) : d.hasDict = false := by
  cases d with
  | list _ => cases h
  | tuple _ => cases h
  | dict _ => cases h
  | _ => rfl
theorem fl_plain {d : D} (h : flB d = true) : d.plain = true := by
  cases d with
  | list _ => cases h
  | tuple _ => cases h
  | dict _ => cases h
  | _ => rfl
theorem fl_sm {d : D} (h : flB d = true) : SmS d := fun x e => by
  subst e
  have := of_decide_eq_true (Bool.and_eq_true_iff.mp h).1
  rw [sizeLine_eq]
  omega
theorem fls : ∀ {ds : List D}, (∀ x ∈ ds, flB x = true) → PyData.showableAll ds = true ∧ PyData.leavesShortAll 41 ds = true ∧ PyData.bulkAll ds ≤ 1001 * ds.length ∧ PyData.depthAll ds = 0 ∧ PyData.hasDictAll ds = false ∧ PyData.plainAll ds = true
  | [], _ => ⟨rfl, rfl, Nat.le_refl _, rfl, rfl, rfl⟩
  | d :: ds, h => by
    have a := h d (List.mem_cons_self ..)
    obtain ⟨h1, h2, h3, h4, h5, h6⟩ := fls fun x hx => h x (List.mem_cons_of_mem _ hx)
    refine ⟨?_, ?_, ?_, ?_, ?_, ?_⟩
    · rw [PyData.showableAll, fl_show a, h1]; rfl
    · rw [PyData.leavesShortAll, fl_leaf a, h2]; rfl
    · rw [PyData.bulkAll, List.length_cons]
      have := fl_bulk a
      omega
    · rw [PyData.depthAll, fl_depth a, h4]; rfl
    · rw [PyData.hasDictAll, fl_dict a, h5]; rfl
    · rw [PyData.plainAll, fl_plain a, h6]; rfl
theorem rok {d : D} (h1 : d.showable = true) (h2 : flatD d = true) (h3 : d.depth ≤ 100) (h4 : d.shown.length ≤ sizeLine) : rOk d = true := by
  unfold rOk
  rw [h1, h2, decide_eq_true h3, decide_eq_true h4]
  rfl
theorem gd_list {ds : List D} (h : ∀ x ∈ ds, flB x = true) (hl : ds.length ≤ 100) : Gd (.list ds) := by
  obtain ⟨h1, h2, h3, h4, h5, h6⟩ := fls h
  refine ⟨rok h1 (by show (!PyData.hasDictAll ds) = true; rw [h5]; rfl) (by show PyData.depthAll ds + 1 ≤ 100; omega) ?_, nofun, fun ds' e => ?_⟩
  · have := PyData.shown_le_bulk 41 (by decide) (.list ds) h2
    have e : PyData.bulk (.list ds) = PyData.bulkAll ds := rfl
    rw [e] at this
    rw [sizeLine_eq]
    omega
  · cases e
    exact ⟨by rw [sizeLine_eq]; omega, h6, fun x hx => fl_sm (h x hx)⟩
theorem gd_tuple {ds : List D} (h : ∀ x ∈ ds, flB x = true) (hl : ds.length ≤ 100) : Gd (.tuple ds) := by
  obtain ⟨h1, h2, h3, h4, h5, h6⟩ := fls h
  refine ⟨rok h1 (by show (!PyData.hasDictAll ds) = true; rw [h5]; rfl) (by show PyData.depthAll ds + 1 ≤ 100; omega) ?_, nofun, nofun⟩
  have := PyData.shown_le_bulk 41 (by decide) (.tuple ds) h2
  have e : PyData.bulk (.tuple ds) = PyData.bulkAll ds := rfl
  rw [e] at this
  rw [sizeLine_eq]
  omega
theorem gd_fl {d : D} (h : flB d = true) : Gd d := by
  refine ⟨rok (fl_show h) ?_ (by rw [fl_depth h]; decide) ?_, fl_sm h, ?_⟩
  · cases d with
    | list _ => cases h
    | tuple _ => cases h
    | dict _ => cases h
    | _ => rfl
  · have := PyData.shown_le_bulk 41 (by decide) d (fl_leaf h)
    have := fl_bulk h
    rw [sizeLine_eq]
    omega
  · intro ds e
    subst e
    cases h
/-- by computing -/
def smB : D → Bool
  | .str x => decide (x.length ≤ sizeLine)
  | _ => true
theorem smB_ok {d : D} (h : smB d = true) : SmS d := fun x e => by subst e; exact of_decide_eq_true h
def gdB (d : D) : Bool := rOk d && smB d && match d with
  | .list ds => decide (ds.length ≤ sizeLine) && PyData.plainAll ds && ds.all smB
  | _ => true
theorem gdB_ok {d : D} (h : gdB d = true) : Gd d := by
  unfold gdB at h
  simp only [Bool.and_eq_true] at h
  refine ⟨h.1.1, smB_ok h.1.2, fun ds e => ?_⟩
  subst e
  have h2 := h.2
  simp only [Bool.and_eq_true, decide_eq_true_eq] at h2
  exact ⟨h2.1.1, h2.1.2, fun x hx => smB_ok (List.all_eq_true.mp h2.2 x hx)⟩
/-! ### copies -/
def cpR : D → Rv
  | .list ds => .fr ds
  | d => .dat d
theorem cpR_deg (d : D) : deg (cpR d) = .dat d := by cases d <;> rfl
def cpOk : Nat → D → Bool
  | 0, _ => false
  | n + 1, .list ds => decide (ds.length ≤ sizeLine) && ds.all (cpOk n)
  | n + 1, .tuple ds => decide (ds.length ≤ sizeLine) && ds.all (cpOk n)
  | _ + 1, .dict [] => true
  | n + 1, .dict [(.str x, .int _)] => decide (0 < n) && decide (x.length ≤ sizeLine)
  | _ + 1, .dict _ => false
  | _ + 1, _ => true
theorem datOf_iff {r : Rv} {d : D} {Q : D → Prop} (h : deg r = .dat d) : DatOf r Q ↔ Q d := by
  unfold DatOf
  rw [h]
  exact Iff.rfl
theorem copied_eq : ∀ (n : Nat) (d : D) (cs : Cs), cpOk n d = true → recM 3 b__law_copied n [.dat d] cs = some (cpR d, cs)
  | 0, _, _, h => by cases h
  | n + 1, d, cs, h => by
    refine em_eq ?_
    rw [em_rec, em_fnM]
    unfold b__law_copied
    have body : ∀ (ds : List D), ds.length ≤ sizeLine → ds.all (cpOk n) = true → ∀ (d : D) (Q : List D → Cs → Prop), Q ds cs → Ec (gNm 1) mYes (mCallF 1 (recM 3 b__law_copied n) (aCons (xVar 1) aNil)) ds (wipeR [some (.dat d), none, none] [1]) cs [] Q := fun ds hz ha d Q q => by
      refine ec_pure (fun _ => true) id (fun x hx cs' => ?_) (by simpa using hz) (by rw [List.nil_append, List.map_id, List.filter_eq_self.mpr (fun _ _ => rfl)]; exact q)
      simp [wipeR]
      refine em_of (copied_eq n x cs' (List.all_eq_true.mp ha x hx)) ?_
      exact ⟨rfl, (datOf_iff (cpR_deg x)).mpr rfl⟩
    match d, h with
    | .list ds, h =>
      obtain ⟨h1, h2⟩ := Bool.and_eq_true_iff.mp (show (decide (ds.length ≤ sizeLine) && ds.all (cpOk n)) = true from h)
      simp [isi_list]
      refine body ds (of_decide_eq_true h1) h2 _ _ ?_
      simp [cpR]
    | .tuple ds, h =>
      obtain ⟨h1, h2⟩ := Bool.and_eq_true_iff.mp (show (decide (ds.length ≤ sizeLine) && ds.all (cpOk n)) = true from h)
      simp [isi_list, isi_tuple]
      refine body ds (of_decide_eq_true h1) h2 _ _ ?_
      simp [cpR, dTuple]
    | .dict [], h =>
      simp [isi_list, isi_tuple, isi_dict, itemsOf, dDict, prsOf, cpR]
    | .dict [(.str x, .int i)], h =>
      obtain ⟨h1, h2⟩ := Bool.and_eq_true_iff.mp (show (decide (0 < n) && decide (x.length ≤ sizeLine)) = true from h)
      have h2' : x.length ≤ sizeLine := of_decide_eq_true h2
      have rec1 : ∀ cs' : Cs, recM 3 b__law_copied n [.dat (.int i)] cs' = some (.dat (.int i), cs') := fun cs' => copied_eq n (.int i) cs' (by
        cases n with
        | zero => cases h1
        | succ n => rfl)
      have e1 : dDGet (.dict [(.str x, .int i)]) (.str x) = some (.dat (.int i)) := by
        simp [dDGet, keyOf, look, eqK]
      simp [isi_list, isi_tuple, isi_dict, itemsOf, h2']
      refine ec_cons ?_
      simp [wipeR, e1]
      refine em_of (rec1 _) ?_
      have two : 2 ≤ sizeLine := two_fit
      simp [two]
      refine ⟨cs, [], ⟨rfl, rfl⟩, rfl, Nat.lt_of_lt_of_le (by decide) (Nat.le_of_eq sizeLine_eq.symm), ?_⟩
      simp [dDict, prsOf, prOf, keyOf, cpR, kD]
    | .none, h => simp [isi_list, isi_tuple, isi_dict, cpR]
    | .bool b, h => simp [isi_list, isi_tuple, isi_dict, cpR]
    | .int i, h => simp [isi_list, isi_tuple, isi_dict, cpR]
    | .str x, h => simp [isi_list, isi_tuple, isi_dict, cpR]

theorem set_set' {cs : Cs} {k : Nat} {a b : Option (List D)} : (cs.set k a).set k b = cs.set k b := by simp
theorem set_app {cs : Cs} {k : Nat} {a : Option (List D)} {t : Cs} (h : k < cs.length) : (cs ++ t).set k a = cs.set k a ++ t := List.set_append_left _ _ h
theorem get_app {cs t : Cs} {k : Nat} {c : List D} (h : cs[k]? = some (some c)) : (cs ++ t)[k]? = some (some c) := by
  rw [List.getElem?_append_left (List.getElem?_eq_some_iff.mp h).1, h]
theorem get_set {cs : Cs} {k : Nat} {c c' : List D} (h : cs[k]? = some (some c)) : (cs.set k (some c'))[k]? = some (some c') := List.getElem?_set_self (List.getElem?_eq_some_iff.mp h).1
/-- [body for turn in range(n)] where each turn draws: cost w a turn, items as P says -/
theorem draws {k n i w : Nat} {b : Int} {ρ : Rho} {f : ME} {P : D → Prop} {cs : Cs} {c : List D} {Q : List D → Cs → Prop} (hc : cs[k]? = some (some c)) (hg : Gs b c) (hn : n ≤ 1000) (hw : (w : Int) * n + b ≤ 10 ^ 20)
    (hf : ∀ (x : D) (b' : Int) (cs' : Cs) (c' : List D) (Q : Rv → Cs → Prop), b' + w ≤ 10 ^ 20 → cs'[k]? = some (some c') → Gs b' c' → (∀ (d : D) (c2 : List D), P d → Gs (b' + w) c2 → Q (.dat d) (cs'.set k (some c2))) → Ev f (ρ.set i (some (.dat x))) cs' Q)
    (h : ∀ (ds : List D) (c' : List D), ds.length = n → (∀ d ∈ ds, P d) → Gs (b + w * n) c' → Q ds (cs.set k (some c'))) : Ec (gNm i) mYes f (rngD 0 n) ρ cs [] Q := by
  have hk := (List.getElem?_eq_some_iff.mp hc).1
  refine ec_inv (k := 0) (fun j acc cs' => ∃ c', acc.length = j ∧ j ≤ n ∧ (∀ d ∈ acc, P d) ∧ Gs (b + w * j) c' ∧ cs' = cs.set k (some c')) ⟨c, rfl, Nat.zero_le _, by simp, by simpa using hg, ?_⟩ ?_ ?_
  · apply List.ext_getElem?
    intro j
    by_cases hj : k = j
    · subst hj
      rw [List.getElem?_set_self hk, hc]
    · rw [List.getElem?_set_ne hj]
  · rintro j d acc cs' hd ⟨c', e1, e2, e3, e4, rfl⟩
    simp only [Nat.zero_add] at e1 e2 e4 ⊢
    have hj : j < n := by
      have := (List.getElem?_eq_some_iff.mp hd).1
      rw [rng_len] at this
      exact this
    have e5 : (w : Int) * (j + 1 : Nat) ≤ w * n := by
      rw [← Int.natCast_mul, ← Int.natCast_mul]
      exact Int.ofNat_le.mpr (Nat.mul_le_mul_left w hj)
    have e6 : (w : Int) * (j + 1 : Nat) = w * j + w := by
      rw [Int.natCast_add, Int.mul_add]
      simp
    rw [eg_gNm, et_mYes, if_pos rfl]
    refine hf d (b + w * j) _ c' _ (by omega) (get_app (get_set hc)) e4 fun x c2 hx hg2 => ?_
    rw [datOf_dat]
    refine ⟨cs.set k (some c2), acc, ?_, by simp, ?_, c2, by simp [e1], hj, ?_, ?_, rfl⟩
    · rw [set_app (by simpa using hk), set_set']
    · rw [sizeLine_eq]
      omega
    · intro y hy
      rcases List.mem_append.mp hy with h1 | h1
      · exact e3 y h1
      · rw [List.mem_singleton.mp h1]; exact hx
    · exact hg2.mono (by omega)
  · rintro acc cs' ⟨c', e1, e2, e3, e4, rfl⟩
    rw [rng_len, Nat.zero_add] at e1 e4
    exact h acc c' e1 e3 e4
def isI (d : D) : Bool := match d with
  | .int _ => true
  | _ => false
theorem sok {ds : List D} (h : (ds.all isS || ds.all isI) = true) : sOk ds = true := by
  unfold sOk
  rw [Bool.and_eq_true, Bool.and_eq_true, Bool.or_eq_true]
  rw [Bool.or_eq_true] at h
  refine ⟨⟨?_, .inr ?_⟩, ?_⟩
  · rw [List.all_eq_true]
    intro d hd
    rw [List.all_eq_true]
    intro e he
    rcases h with h | h
    · have h1 := List.all_eq_true.mp h d hd
      have h2 := List.all_eq_true.mp h e he
      cases d <;> cases e <;> first | rfl | (cases h1; done) | (cases h2; done)
    · have h1 := List.all_eq_true.mp h d hd
      have h2 := List.all_eq_true.mp h e he
      cases d <;> cases e <;> first | rfl | (cases h1; done) | (cases h2; done)
  · rw [List.all_eq_true]
    intro d hd
    rcases h with h | h
    · have h1 := List.all_eq_true.mp h d hd
      cases d <;> first | rfl | (cases h1; done)
    · have h1 := List.all_eq_true.mp h d hd
      cases d <;> first | rfl | (cases h1; done)
  · rw [List.all_eq_true]
    intro d hd
    refine decide_eq_true ?_
    rcases h with h | h
    · have h1 := List.all_eq_true.mp h d hd
      cases d <;> first | exact Nat.zero_le _ | (cases h1; done)
    · have h1 := List.all_eq_true.mp h d hd
      cases d <;> first | exact Nat.zero_le _ | (cases h1; done)
theorem srt_mem {ds : List D} {d : D} : d ∈ srt ds ↔ d ∈ ds := List.mem_mergeSort
theorem srt_len {ds : List D} : (srt ds).length = ds.length := List.length_mergeSort ds
def menuD : List D := [.none, .bool true, .bool false, .int 0, .int 1, .int (-1), .int 100000000000, .str "", .str "a", .str "A", .str "ab", .str "a b", .str "1a", .str "a1", .str " ", .str "a\n", .str (Txt.mul "z" 20), .str (Txt.mul "z" 21), .str "abcdefgh", .str "abcdefghi",
  .list [], .tuple [], .dict [], .list [.int 0], .list [.int 1, .int 0], .list [.int 0, .str "a"], .list [.str "a", .int 0], .list [.none, .int 0], .list [.int 0, .list [.int 1]], .list [.int 0, .tuple [.int 1]], .list [.bool true], .list [.int 0, .int 1], .list [.int 0, .int 0], .tuple [.int 0, .int 1], .list [.str "a"], .list [.list []],
  .dict [(.str "a", .int 1)], .list [.int 1, .int 2, .int 100000000000], .list [.int (-1)], .str "a_b", .str "aB", .str (Txt.mul "a" 200), .str "e0", .str "0", .str "house", .tuple [.str "house"]]
theorem menu_ok : menuD.all (fun d => gdB d && cpOk 6 d) = true := by decide +kernel
theorem dMul_str {z : Str} {k : Int} : dMul (.str z) (.int k) = if 0 ≤ k ∧ k < 2 ^ 31 ∧ z.length * k.toNat ≤ 16777216 then some (.dat (.str (Txt.mul z k))) else none := rfl
theorem mul_z20 : dMul (.str "z") (.int 20) = some (.dat (.str (Txt.mul "z" 20))) := by rw [dMul_str, if_pos (by decide +kernel)]
theorem mul_z21 : dMul (.str "z") (.int 21) = some (.dat (.str (Txt.mul "z" 21))) := by rw [dMul_str, if_pos (by decide +kernel)]
theorem mul_a200 : dMul (.str "a") (.int 200) = some (.dat (.str (Txt.mul "a" 200))) := by rw [dMul_str, if_pos (by decide +kernel)]
theorem dNeg_int {i : Int} : dNeg (.int i) = some (.dat (.int (-i))) := rfl
theorem dPow_11 : dPow (.int 10) (.int 11) = some (.dat (.int 100000000000)) := by
  show (if CPw 10 11 then some (di (10 ^ (11 : Int).toNat)) else none) = _
  rw [if_pos (by decide)]
  rfl
theorem dAdd_list {x y : List D} : dAdd (.list x) (.list y) = if x.length + y.length ≤ sizeLine then some (.fr (x ++ y)) else none := rfl
theorem le_size {n : Nat} (h : n ≤ 16777216) : n ≤ sizeLine := by rw [sizeLine_eq]; exact h
theorem ret_cp {d : D} {n : Nat} {cs : Cs} {Q : Rv → Cs → Prop} (hl : cs.length = n) (q : Q (cpR d) cs) : Ret n (cpR d) cs (DL.Fin n Q) := by
  subst hl
  cases d with
  | list ds =>
    show Ret _ (.fr ds) _ _
    simp
    exact q
  | _ =>
    show Ret _ (.dat _) _ _
    simp
    exact q
theorem any_em {k : Nat} {b : Int} {cs : Cs} {c : List D} {Q : Rv → Cs → Prop} (hc : cs[k]? = some (some c)) (hg : Gs b c) (hb : b ≤ 10 ^ 19) (h : ∀ (d : D) (c' : List D), Gd d → Gs (b + 100) c' → Q (cpR d) (cs.set k (some c'))) : Em m__law_any [.own k] cs Q := by
  unfold m__law_any
  rw [em_fnM]
  unfold b__law_any
  simp [mul_z20, mul_z21, mul_a200, dNeg_int, dPow_11, dAdd_list, le_size]
  refine pick_em hc hg (by omega) (by simp) (by simp) fun d c2 hd g2 => ?_
  have hm : d ∈ menuD := hd
  have hd' := List.all_eq_true.mp menu_ok d hm
  rw [Bool.and_eq_true] at hd'
  simp only [deg_dat]
  refine em_of (copied_eq 6 d _ hd'.2) ?_
  exact ret_cp (by simp) (h d c2 (gdB_ok hd'.1) g2)

end My
namespace My
open PySem PySem.Spec PyProof.Rows L2 DL
def b_check_list : MS :=
  (sIf (mTNot (mTru (mU (dIsi "list") (xVar 0)))) sNev sNil)
def m_check_list : MF := fnM 1 b_check_list
noncomputable def b_check_fraction : MS :=
  (sIf (mTNot (mTru (mCallF 1 m_is_fraction (aCons (xVar 0) aNil)))) sNev sNil)
noncomputable def m_check_fraction : MF := fnM 1 b_check_fraction
noncomputable def b_fraction_of : MS :=
  (sSeq (sIf (mTNot (mTru (mCallF 1 m_is_whole (aCons (xVar 0) aNil)))) sNev sNil)
  (sSeq (sIf (mTOr (mTNot (mTru (mCallF 1 m_is_whole (aCons (xVar 1) aNil)))) (mTB (mB dEq (xVar 1) (xC (.int 0))))) sNev sNil)
  (sRet (mCallF 2 m_lowest_of (aCons (xVar 0) (aCons (xVar 1) aNil))))))
noncomputable def m_fraction_of : MF := fnM 2 b_fraction_of
def b_less_than : MS :=
  (sRet (mB dLt (mB dMul (mB dIx (xVar 0) (xC (.int 0))) (mB dIx (xVar 1) (xC (.int 1)))) (mB dMul (mB dIx (xVar 1) (xC (.int 0))) (mB dIx (xVar 0) (xC (.int 1))))))
def m_less_than : MF := fnM 2 b_less_than
noncomputable def b_check_fractions : MS :=
  (sSeq (sExpr (mCallF 1 m_check_list (aCons (xVar 0) aNil)))
  (sFor (iSeq (xVar 0)) (gNm 1) (sExpr (mCallF 1 m_check_fraction (aCons (xVar 1) aNil)))))
noncomputable def m_check_fractions : MF := fnM 2 b_check_fractions
noncomputable def b_sum_of : MS :=
  (sSeq (sExpr (mCallF 1 m_check_fractions (aCons (xVar 0) aNil)))
  (sSeq (sSet 1 (xTup (aCons (xC (.int 0)) (aCons (xC (.int 1)) aNil))))
  (sSeq (sFor (iSeq (xVar 0)) (gNm 2) (sSet 1 (mCallF 2 m_plus_of (aCons (xVar 1) (aCons (xVar 2) aNil)))))
  (sRet (xVar 1)))))
noncomputable def m_sum_of : MF := fnM 3 b_sum_of
noncomputable def b_product_of : MS :=
  (sSeq (sExpr (mCallF 1 m_check_fractions (aCons (xVar 0) aNil)))
  (sSeq (sSet 1 (xTup (aCons (xC (.int 1)) (aCons (xC (.int 1)) aNil))))
  (sSeq (sFor (iSeq (xVar 0)) (gNm 2) (sSet 1 (mCallF 2 m_times_of (aCons (xVar 1) (aCons (xVar 2) aNil)))))
  (sRet (xVar 1)))))
noncomputable def m_product_of : MF := fnM 3 b_product_of
noncomputable def b_is_less : MS :=
  (sSeq (sExpr (mCallF 1 m_check_fraction (aCons (xVar 0) aNil)))
  (sSeq (sExpr (mCallF 1 m_check_fraction (aCons (xVar 1) aNil)))
  (sRet (mCallF 2 m_less_than (aCons (xVar 0) (aCons (xVar 1) aNil))))))
noncomputable def m_is_less : MF := fnM 2 b_is_less
def b__law_low : MS :=
  (sSeq (sParO 3 4 (aDat (mCall dAbs (aCons (xVar 0) aNil)) (aDat (xVar 1) aNil)))
  (sSeq (sFor (iRg1 (aCons (mB dAdd (mB dMul (mCall dLen (aCons (mCall dStr (aCons (xVar 1) aNil)) aNil)) (xC (.int 5))) (xC (.int 1))) aNil)) (gNm 2) (sAsg (mIf (mTB (mB dGt (xVar 4) (xC (.int 0)))) (xTup (aCons (xVar 4) (aCons (mB dMod (xVar 3) (xVar 4)) aNil))) (xTup (aCons (xVar 3) (aCons (xC (.int 0)) aNil)))) (gTp 2 (gsCons (gNm 3) (gsCons (gNm 4) gsNil)))))
  (sRet (xTup (aCons (mB dDiv (xVar 0) (xVar 3)) (aCons (mB dDiv (xVar 1) (xVar 3)) aNil))))))
def m__law_low : MF := fnM 5 b__law_low
def b__law_big : MS :=
  (sSeq (sSet 1 (mCallF 2 m__law_pick (aCons (xVar 0) (aCons (xLst (aCons (xC (.int 3)) (aCons (xC (.int 12)) (aCons (xC (.int 1000)) (aCons (mB dPow (xC (.int 10)) (xC (.int 10))) (aCons (mB dPow (xC (.int 10)) (xC (.int 10))) aNil)))))) aNil))))
  (sRet (mB dMul (mCallF 2 m__law_random (aCons (xVar 0) (aCons (xVar 1) aNil))) (mCallF 2 m__law_pick (aCons (xVar 0) (aCons (xLst (aCons (xC (.int 1)) (aCons (xC (.int 1)) (aCons (mB dSub (xC (.int 0)) (xC (.int 1))) aNil)))) aNil))))))
def m__law_big : MF := fnM 2 b__law_big
def b__law_drawn_pair : MS :=
  (sSeq (sSet 1 (mCallF 1 m__law_big (aCons (xVar 0) aNil)))
  (sRet (xTup (aCons (mCallF 1 m__law_big (aCons (xVar 0) aNil)) (aCons (mIf (mTB (mB dEq (xVar 1) (xC (.int 0)))) (xC (.int 1)) (xVar 1)) aNil)))))
def m__law_drawn_pair : MF := fnM 2 b__law_drawn_pair
def b__law_fraction : MS :=
  (sSeq (sIf (mTB (mB dLt (xVar 1) (xC (.int 0)))) (sParO 0 1 (aDat (mB dSub (xC (.int 0)) (xVar 0)) (aDat (mB dSub (xC (.int 0)) (xVar 1)) aNil))) sNil)
  (sSeq (sSet 2 (mCallF 2 m__law_low (aCons (xVar 0) (aCons (xVar 1) aNil))))
  (sRet (mIf (mTB (mB dGt (mB dIx (xVar 2) (xC (.int 1))) (xC (.int 0)))) (xVar 2) (xTup (aCons (xC (.int 0)) (aCons (xC (.int 1)) aNil)))))))
def m__law_fraction : MF := fnM 3 b__law_fraction
def b__law_is_fraction : MS :=
  (sSeq (sIf (mTOr (mTNot (mTru (mU (dIsi "tuple") (xVar 0)))) (mTOr (mTB (mB dNe (mCall dLen (aCons (xVar 0) aNil)) (xC (.int 2)))) (mTB (mB dNe (xComp (iSeq (xVar 0)) (gNm 1) (mTOr (mTru (mU (dIsi "bool") (xVar 1))) (mTNot (mTru (mU (dIsi "int") (xVar 1))))) (xVar 1) [1]) (xLst aNil))))) (sRet (xC (.bool false))) sNil)
  (sRet (mAnd (mB dGt (mB dIx (xVar 0) (xC (.int 1))) (xC (.int 0))) (mB dEq (mCallF 2 m__law_fraction (aCons (mB dIx (xVar 0) (xC (.int 0))) (aCons (mB dIx (xVar 0) (xC (.int 1))) aNil))) (xVar 0)))))
def m__law_is_fraction : MF := fnM 2 b__law_is_fraction
noncomputable def b__law_made_right : MS :=
  (sSeq (sAsg (mCallF 1 m__law_drawn_pair (aCons (xVar 0) aNil)) (gTp 2 (gsCons (gNm 6) (gsCons (gNm 7) gsNil))))
  (sSeq (sSet 1 (mB dAdd (xC (.int 1)) (mCallF 2 m__law_random (aCons (xVar 0) (aCons (xC (.int 9)) aNil)))))
  (sSeq (sSet 2 (mCallF 2 m__law_fraction (aCons (xVar 6) (aCons (xVar 7) aNil))))
  (sSeq (sSet 3 (xLst (aCons (mCallF 2 m_fraction_of (aCons (xVar 6) (aCons (xVar 7) aNil))) (aCons (mCallK 0 2 2 [1, 0] m_fraction_of aNil (aCons (mB dMul (xVar 7) (xVar 1)) (aCons (mB dMul (xVar 6) (xVar 1)) aNil))) (aCons (mCallF 2 m_fraction_of (aCons (mB dSub (xC (.int 0)) (xVar 6)) (aCons (mB dSub (xC (.int 0)) (xVar 7)) aNil))) aNil)))))
  (sSeq (sIf (mTNot (mTru (mCallF 2 m__law_exact (aCons (xVar 3) (aCons (xLst (aCons (xVar 2) (aCons (xVar 2) (aCons (xVar 2) aNil)))) aNil))))) (sRet (xC (.bool false))) sNil)
  (sSeq (sSet 4 (xLst (aCons (xVar 2) (aCons (mCall dList (aCons (xVar 2) aNil)) (aCons (mB dAdd (xVar 2) (xTup (aCons (xC (.int 1)) aNil))) (aCons (mSl (xVar 2) oNone (oSome (xC (.int 1)))) (aCons (xTup (aCons (xVar 6) (aCons (xVar 7) aNil))) (aCons (xTup (aCons (mB dMul (xVar 6) (xVar 1)) (aCons (mB dMul (xVar 7) (xVar 1)) aNil))) (aCons (xTup (aCons (mB dIx (xVar 2) (xC (.int 0))) (aCons (mB dSub (xC (.int 0)) (mB dIx (xVar 2) (xC (.int 1)))) aNil))) aNil)))))))))
  (sSeq (sSet 4 (mB dAdd (xVar 4) (xLst (aCons (xTup (aCons (mB dIx (xVar 2) (xC (.int 0))) (aCons (xC (.int 0)) aNil))) (aCons (xTup (aCons (xC (.bool true)) (aCons (xC (.int 2)) aNil))) (aCons (xTup (aCons (xC (.int 1)) (aCons (xC (.bool true)) aNil))) (aCons (xTup (aCons (xC (.str "1")) (aCons (xC (.int 2)) aNil))) (aCons (xC .none) (aCons (xVar 6) (aCons (xTup (aCons (xC (.int 0)) (aCons (xC (.int 1)) aNil))) (aCons (xTup (aCons (xC (.int 0)) (aCons (xC (.int 2)) aNil))) (aCons (mCallF 1 m__law_any (aCons (xVar 0) aNil)) aNil))))))))))))
  (sSeq (sSet 4 (mB dAdd (xVar 4) (xLst (aCons (xTup (aCons (xC (.int 0)) (aCons (xC (.bool true)) aNil))) (aCons (xTup (aCons (xC (.bool false)) (aCons (xC (.int 1)) aNil))) (aCons (xTup (aCons (xC (.bool false)) (aCons (xC (.bool true)) aNil))) (aCons (xTup (aCons (xC (.int 1)) (aCons (xC .none) aNil))) (aCons (xTup (aCons (xC (.int 1)) (aCons (xC (.str "2")) aNil))) (aCons (xTup (aCons (xC (.int 1)) (aCons (xTup (aCons (xC (.int 1)) aNil)) aNil))) aNil)))))))))
  (sSeq (sFor (iSeq (xVar 4)) (gNm 5) (sSeq (sSet 8 (mCall dRepr (aCons (xVar 5) aNil)))
  (sIf (mTOr (mTNot (mTru (mCallF 2 m__law_exact (aCons (xLst (aCons (mCallF 1 m_is_fraction (aCons (xVar 5) aNil)) (aCons (mCallK 0 1 1 [0] m_is_fraction aNil (aCons (xVar 5) aNil)) aNil))) (aCons (mB dMul (xLst (aCons (mCallF 1 m__law_is_fraction (aCons (xVar 5) aNil)) aNil)) (xC (.int 2))) aNil))))) (mTB (mB dNe (mCall dRepr (aCons (xVar 5) aNil)) (xVar 8)))) (sRet (xC (.bool false))) sNil)))
  (sRet (xC (.bool true))))))))))))
noncomputable def m__law_made_right : MF := fnM 9 b__law_made_right
noncomputable def b__law_sums_right : MS :=
  (sSeq (sSet 1 (xComp (iSeq (xComp (iRg1 (aCons (mCallF 2 m__law_random (aCons (xVar 0) (aCons (xC (.int 6)) aNil))) aNil)) (gNm 10) mYes (mCallF 1 m__law_drawn_pair (aCons (xVar 0) aNil)) [10])) (gNm 3) mYes (mCallF 2 m__law_fraction (aCons (mB dIx (xVar 3) (xC (.int 0))) (aCons (mB dIx (xVar 3) (xC (.int 1))) aNil))) [3]))
  (sSeq (sPar3 4 5 6 (aDat (mCall dRepr (aCons (xVar 1) aNil)) (aDat (xTup (aCons (xC (.int 0)) (aCons (xC (.int 1)) aNil))) (aDat (xTup (aCons (xC (.int 1)) (aCons (xC (.int 1)) aNil))) aNil))))
  (sSeq (sFor (iSeq (xVar 1)) (gNm 2) (sSeq (sSet 5 (mCallF 2 m__law_fraction (aCons (mB dAdd (mB dMul (mB dIx (xVar 5) (xC (.int 0))) (mB dIx (xVar 2) (xC (.int 1)))) (mB dMul (mB dIx (xVar 2) (xC (.int 0))) (mB dIx (xVar 5) (xC (.int 1))))) (aCons (mB dMul (mB dIx (xVar 5) (xC (.int 1))) (mB dIx (xVar 2) (xC (.int 1)))) aNil))))
  (sSet 6 (mCallF 2 m__law_fraction (aCons (mB dMul (mB dIx (xVar 6) (xC (.int 0))) (mB dIx (xVar 2) (xC (.int 0)))) (aCons (mB dMul (mB dIx (xVar 6) (xC (.int 1))) (mB dIx (xVar 2) (xC (.int 1)))) aNil))))))
  (sSeq (sIf (mTNot (mTru (mCallF 2 m__law_exact (aCons (xLst (aCons (mCallF 1 m_sum_of (aCons (xVar 1) aNil)) (aCons (mCallK 0 1 1 [0] m_sum_of aNil (aCons (xVar 1) aNil)) (aCons (mCallF 1 m_product_of (aCons (xVar 1) aNil)) (aCons (mCallK 0 1 1 [0] m_product_of aNil (aCons (xVar 1) aNil)) aNil))))) (aCons (xLst (aCons (xVar 5) (aCons (xVar 5) (aCons (xVar 6) (aCons (xVar 6) aNil))))) aNil))))) (sRet (xC (.bool false))) sNil)
  (sSeq (sSet 1 (mB dAdd (xVar 1) (xLst (aCons (xTup (aCons (xC (.int 1)) (aCons (xC (.int 3)) aNil))) (aCons (xTup (aCons (xC (.int 1)) (aCons (xC (.int 2)) aNil))) (aCons (xTup (aCons (mB dSub (xC (.int 0)) (xC (.int 1))) (aCons (xC (.int 2)) aNil))) (aCons (xTup (aCons (xC (.int 0)) (aCons (xC (.int 1)) aNil))) aNil)))))))
  (sSeq (sParO 7 8 (aDat (mCallF 2 m__law_pick (aCons (xVar 0) (aCons (xVar 1) aNil))) (aDat (mCallF 2 m__law_pick (aCons (xVar 0) (aCons (xVar 1) aNil))) aNil)))
  (sSeq (sFor (iSeq (xLst (aCons (xTup (aCons (xVar 7) (aCons (xVar 8) aNil))) (aCons (xTup (aCons (xVar 8) (aCons (xVar 7) aNil))) (aCons (xTup (aCons (xVar 7) (aCons (xVar 7) aNil))) aNil))))) (gNm 3) (sSeq (sSet 9 (mB dLt (mB dMul (mB dIx (mB dIx (xVar 3) (xC (.int 0))) (xC (.int 0))) (mB dIx (mB dIx (xVar 3) (xC (.int 1))) (xC (.int 1)))) (mB dMul (mB dIx (mB dIx (xVar 3) (xC (.int 1))) (xC (.int 0))) (mB dIx (mB dIx (xVar 3) (xC (.int 0))) (xC (.int 1))))))
  (sIf (mTNot (mTru (mCallF 2 m__law_exact (aCons (xLst (aCons (mCallF 2 m_is_less (aCons (mB dIx (xVar 3) (xC (.int 0))) (aCons (mB dIx (xVar 3) (xC (.int 1))) aNil))) (aCons (mCallK 0 2 2 [1, 0] m_is_less aNil (aCons (mB dIx (xVar 3) (xC (.int 1))) (aCons (mB dIx (xVar 3) (xC (.int 0))) aNil))) aNil))) (aCons (xLst (aCons (xVar 9) (aCons (xVar 9) aNil))) aNil))))) (sRet (xC (.bool false))) sNil)))
  (sRet (mB dEq (xVar 4) (mCall dRepr (aCons (mSl (xVar 1) oNone (oSome (mB dSub (xC (.int 0)) (xC (.int 4))))) aNil)))))))))))
noncomputable def m__law_sums_right : MF := fnM 11 b__law_sums_right
noncomputable def b__law_long_right : MS :=
  (sSeq (sSet 1 (xComp (iSeq (xComp (iRg1 (aCons (xC (.int 60)) aNil)) (gNm 9) mYes (mCallF 1 m__law_drawn_pair (aCons (xVar 0) aNil)) [9])) (gNm 8) mYes (mCallF 2 m__law_fraction (aCons (mB dIx (xVar 8) (xC (.int 0))) (aCons (mB dIx (xVar 8) (xC (.int 1))) aNil))) [8]))
  (sSeq (sAsg (xTup (aCons (xTup (aCons (xC (.int 0)) (aCons (xC (.int 1)) aNil))) (aCons (xTup (aCons (xC (.int 1)) (aCons (xC (.int 1)) aNil))) aNil))) (gTp 2 (gsCons (gNm 4) (gsCons (gNm 5) gsNil))))
  (sSeq (sFor (iSeq (xVar 1)) (gNm 2) (sSeq (sSet 4 (mCallF 2 m__law_fraction (aCons (mB dAdd (mB dMul (mB dIx (xVar 4) (xC (.int 0))) (mB dIx (xVar 2) (xC (.int 1)))) (mB dMul (mB dIx (xVar 2) (xC (.int 0))) (mB dIx (xVar 4) (xC (.int 1))))) (aCons (mB dMul (mB dIx (xVar 4) (xC (.int 1))) (mB dIx (xVar 2) (xC (.int 1)))) aNil))))
  (sSet 5 (mCallF 2 m__law_fraction (aCons (mB dMul (mB dIx (xVar 5) (xC (.int 0))) (mB dIx (xVar 2) (xC (.int 0)))) (aCons (mB dMul (mB dIx (xVar 5) (xC (.int 1))) (mB dIx (xVar 2) (xC (.int 1)))) aNil))))))
  (sSeq (sParO 6 7 (aDat (mCall dRepr (aCons (xVar 1) aNil)) (aDat (mCallF 1 m_sum_of (aCons (xVar 1) aNil)) aNil)))
  (sSeq (sIf (mTOr (mTB (mB dNe (mCall dRepr (aCons (xVar 1) aNil)) (xVar 6))) (mTNot (mTru (mCallF 2 m__law_exact (aCons (xLst (aCons (xVar 7) (aCons (mCallF 1 m_product_of (aCons (xVar 1) aNil)) (aCons (mCallF 1 m_is_fraction (aCons (xVar 4) aNil)) (aCons (mCallF 1 m_is_fraction (aCons (xVar 5) aNil)) aNil))))) (aCons (xLst (aCons (xVar 4) (aCons (xVar 5) (aCons (xC (.bool true)) (aCons (xC (.bool true)) aNil))))) aNil)))))) (sRet (xC (.bool false))) sNil)
  (sSeq (sIf (mTB (mB dNe (mCall dRepr (aCons (xVar 1) aNil)) (xVar 6))) (sRet (xC (.bool false))) sNil)
  (sSeq (sSet 3 (mCallF 2 m__law_fraction (aCons (mB dAdd (mB dMul (mB dIx (xVar 4) (xC (.int 0))) (mB dIx (xVar 5) (xC (.int 1)))) (mB dMul (mB dIx (xVar 5) (xC (.int 0))) (mB dIx (xVar 4) (xC (.int 1))))) (aCons (mB dMul (mB dIx (xVar 4) (xC (.int 1))) (mB dIx (xVar 5) (xC (.int 1)))) aNil))))
  (sRet (mCallF 2 m__law_exact (aCons (xLst (aCons (mCallF 2 m_is_less (aCons (xVar 4) (aCons (xVar 5) aNil))) (aCons (mCallF 1 m_sum_of (aCons (xLst (aCons (xVar 4) (aCons (xVar 5) aNil))) aNil)) aNil))) (aCons (xLst (aCons (mB dLt (mB dMul (mB dIx (xVar 4) (xC (.int 0))) (mB dIx (xVar 5) (xC (.int 1)))) (mB dMul (mB dIx (xVar 5) (xC (.int 0))) (mB dIx (xVar 4) (xC (.int 1))))) (aCons (xVar 3) aNil))) aNil)))))))))))
noncomputable def m__law_long_right : MF := fnM 10 b__law_long_right
noncomputable def b_law : MS :=
  (sSeq (sFor (iRg1 (aCons (xC (.int 3)) aNil)) (gNm 1) (sSeq (sOwn 2 (mCallF 2 m__law_generator (aCons (xVar 0) (aCons (xVar 1) aNil))))
  (sSeq (sFor (iRg1 (aCons (xC (.int 5)) aNil)) (gNm 3) (sIf (mTOr (mTNot (mTru (mCallF 1 m__law_made_right (aCons (xVar 2) aNil)))) (mTNot (mTru (mCallF 1 m__law_sums_right (aCons (xVar 2) aNil))))) (sRet (xC (.bool false))) sNil))
  (sIf (mTNot (mTru (mCallF 1 m__law_long_right (aCons (xVar 2) aNil)))) (sRet (xC (.bool false))) sNil))))
  (sRet (xC (.bool true))))
noncomputable def m_law : MF := fnM 4 b_law
end My
namespace My
open PySem PySem.Spec PyProof.Rows L2 DL
/-! what equals itself exactly -/
def exOk : Nat → D → Bool
  | 0, _ => false
  | n + 1, .list ds => decide (ds.length ≤ sizeLine) && ds.all (exOk n)
  | n + 1, .tuple ds => decide (ds.length ≤ sizeLine) && ds.all (exOk n)
  | _ + 1, .dict _ => false
  | _ + 1, _ => true
theorem zip_self : ∀ (ds : List D), zipD ds ds = ds.map fun d => .tuple [d, d]
  | [] => rfl
  | d :: ds => by rw [zipD, zip_self ds]; rfl
theorem exact_eq : ∀ (n : Nat) (d : D) (cs : Cs), exOk n d = true → recM 4 b__law_exact n [.dat d, .dat d] cs = some (db true, cs)
  | 0, _, _, h => by cases h
  | n + 1, d, cs, h => by
    refine em_eq ?_
    rw [em_rec, em_fnM]
    unfold b__law_exact
    have body : ∀ (ds : List D), ds.length ≤ sizeLine → ds.all (exOk n) = true → ∀ (ρ : Rho) (Q : List D → Cs → Prop), 3 < ρ.length → (∀ l, (∀ x ∈ l, x = .bool true) → Q l cs) → Ec (gTp 2 (gsCons (gNm 2) (gsCons (gNm 3) gsNil))) mYes (mCallF 2 (recM 4 b__law_exact n) (aCons (xVar 2) (aCons (xVar 3) aNil))) (zipD ds ds) (wipeR ρ [2, 3]) cs [] Q := fun ds hz ha ρ Q hl q => by
      rw [zip_self]
      refine ec_pure (fun _ => true) (fun _ => .bool true) (fun x hx cs' => ?_) (by simpa using hz) (q _ ?_)
      · obtain ⟨y, hy, rfl⟩ := List.mem_map.mp hx
        have l2 : 2 < ((wipeR ρ [2, 3]).set 2 (some (.dat y))).length := by simp [wipeR]; omega
        have w2 : 2 < (wipeR ρ [2, 3]).length := by simp [wipeR]; omega
        have w3 : 3 < (wipeR ρ [2, 3]).length := by simp [wipeR]; omega
        simp [w2, w3]
        refine em_of (exact_eq n y cs' (List.all_eq_true.mp ha y hy)) ?_
        simp
      · intro x hx
        rw [List.nil_append] at hx
        obtain ⟨y, _, rfl⟩ := List.mem_map.mp hx
        rfl
    have i1 : ∀ b : Bool, dIs id (.bool b) .none = some (db false) := fun _ => rfl
    have i2 : ∀ b : Bool, dIs id (.bool b) (.bool true) = some (db (b == true)) := fun _ => rfl
    have i3 : ∀ b : Bool, dIs id (.bool b) (.bool false) = some (db (b == false)) := fun _ => rfl
    have j1 : ∀ b : Int, dIs id (.int b) .none = some (db false) := fun _ => rfl
    have j2 : ∀ b : Int, dIs id (.int b) (.bool true) = some (db false) := fun _ => rfl
    have j3 : ∀ b : Int, dIs id (.int b) (.bool false) = some (db false) := fun _ => rfl
    have k1 : ∀ b : Str, dIs id (.str b) .none = some (db false) := fun _ => rfl
    have k2 : ∀ b : Str, dIs id (.str b) (.bool true) = some (db false) := fun _ => rfl
    have k3 : ∀ b : Str, dIs id (.str b) (.bool false) = some (db false) := fun _ => rfl
    have n1 : dIs id .none .none = some (db true) := rfl
    match d, h with
    | .list ds, h =>
      obtain ⟨h1, h2⟩ := Bool.and_eq_true_iff.mp (show (decide (ds.length ≤ sizeLine) && ds.all (exOk n)) = true from h)
      simp [isi_list, dLen, dEq_int]
      refine body ds (of_decide_eq_true h1) h2 _ _ (by simp) fun l hl => ?_
      rw [notin_bools hl]
      simp
    | .tuple ds, h =>
      obtain ⟨h1, h2⟩ := Bool.and_eq_true_iff.mp (show (decide (ds.length ≤ sizeLine) && ds.all (exOk n)) = true from h)
      simp [isi_list, isi_tuple, dLen, dEq_int]
      refine body ds (of_decide_eq_true h1) h2 _ _ (by simp) fun l hl => ?_
      rw [notin_bools hl]
      simp
    | .none, h => simp [isi_list, isi_tuple, n1]
    | .bool b, h => cases b <;> simp [isi_list, isi_tuple, i1, i2, i3]
    | .int i, h => simp [isi_list, isi_tuple, j1, j2, j3, isi_int, isi_bool, dNot, dEq_int]
    | .str x, h => simp [isi_list, isi_tuple, k1, k2, k3, isi_int, isi_str, dEq_str]
/-! the law's own fractions -/
theorem low_eq {a b : Int} {cs : Cs} (hb : 0 < b) (hz : b.natAbs < 10 ^ 2000) : m__law_low [.dat (.int a), .dat (.int b)] cs = some (.dat (.tuple [.int (nfA a b), .int (nfB a b)]), cs) := by
  refine em_eq ?_
  unfold m__law_low
  rw [em_fnM]
  unfold b__law_low
  have hz2 : b.natAbs < 10 ^ 4300 := Nat.lt_of_lt_of_le hz (Nat.pow_le_pow_right (by decide) (by decide))
  have st : dStr [.int b] = some (.dat (.str (Str.ofString (toString b)))) := if_pos hz2
  generalize hd : (Str.ofString (toString b)).length = d
  have hd2 : (toString b).length = d := by rw [← hd, ofs_len]
  have bn : b = ((b.natAbs : Nat) : Int) := by omega
  have er : toString b = Nat.repr b.natAbs := by
    rw [bn]
    rfl
  have d0 : 0 < d := by
    rw [← hd2, er]
    exact Nat.length_repr_pos
  have dle : d ≤ 2001 := by
    rw [← hd2]
    exact PySem.int_text_length_le10 (k := 2000) (by decide) hz
  have hlt : b.natAbs < 10 ^ d := by
    refine (Nat.length_repr_le_iff d0).mp ?_
    rw [← er, hd2]
    exact Nat.le_refl _
  have sl : dLen [.str (Str.ofString (toString b))] = some (di d) := by
    show some (di ((Str.ofString (toString b)).length : Int)) = _
    rw [hd]
  generalize (Str.ofString (toString b)) = sb at st sl
  have cm : CMl (d : Int) 5 := cml 11 3 (by rw [Int.natAbs_natCast]; exact Nat.lt_of_le_of_lt dle (by decide)) (by decide)
  simp [dAbs_int, st, sl, dMul_int cm, dAdd_int]
  refine ⟨by constructor <;> omega, ?_⟩
  have en : ((d : Int) * 5 + 1).toNat = 5 * d + 1 := by omega
  rw [en]
  refine el_inv (k := 0) (fun i ρ cs' => cs' = cs ∧ ∃ x2, ρ = [some (.dat (.int a)), some (.dat (.int b)), x2, some (di (eu i (a.natAbs, b.natAbs)).1), some (di (eu i (a.natAbs, b.natAbs)).2)]) ⟨rfl, none, ?_⟩ ?_ ?_
  · show _ = [_, _, _, some (di (a.natAbs : Int)), some (di (b.natAbs : Int))]
    rw [← bn]
  · rintro i x ρ cs' hi ⟨rfl, x2, rfl⟩
    rw [Nat.zero_add, eu_succ]
    generalize eu i (a.natAbs, b.natAbs) = p
    obtain ⟨u, v⟩ := p
    have two : 2 ≤ sizeLine := two_fit
    by_cases hv : 0 < v
    · have hv' : (v : Int) ≠ 0 := by omega
      have e : (u : Int).fmod v = ((u % v : Nat) : Int) := by rw [Int.fmod_eq_emod_of_nonneg _ (by omega)]; rfl
      simp [dGt_int, hv, dMod_int hv', e, two, eu1]
    · have : v = 0 := by omega
      subst this
      simp [dGt_int, two, eu1]
  · rintro ρ cs' ⟨rfl, x2, rfl⟩
    rw [rng_len, Nat.zero_add, eu_end hlt]
    have g0 := gcd_pos (a := a) (show b ≠ 0 by omega)
    have gi : (0 : Int) < (Int.gcd a b : Int) := by omega
    have eg : ((Nat.gcd a.natAbs b.natAbs : Nat) : Int) = (Int.gcd a b : Int) := rfl
    have dv : ∀ x : Int, CDv x (Int.gcd a b : Int) := fun x => ⟨by omega, by
      have h1 : Int.gcd a b < 2 ^ 8000 := Nat.lt_of_le_of_lt (gcd_le (show b ≠ 0 by omega)) (Nat.lt_trans hz (by decide +kernel))
      have := log2_le h1
      show (Int.gcd a b : Int).natAbs.log2 < 9000
      rw [Int.natAbs_natCast]
      omega⟩
    have e1 : a.fdiv (Int.gcd a b : Int) = nfA a b := by
      rw [fdiv_pos gi]
      unfold nfA
      rw [Int.sign_eq_one_of_pos hb, Int.one_mul]
    have e2 : b.fdiv (Int.gcd a b : Int) = nfB a b := by
      rw [fdiv_pos gi]
      unfold nfB
      rw [← bn]
    simp [eg, dDiv_int (dv _), e1, e2, two_fit]
theorem lfrac_eq {a b : Int} {cs : Cs} (hb : b ≠ 0) (hz : b.natAbs < 10 ^ 2000) : m__law_fraction [.dat (.int a), .dat (.int b)] cs = some (.dat (.tuple [.int (nfA a b), .int (nfB a b)]), cs) := by
  refine em_eq ?_
  unfold m__law_fraction
  rw [em_fnM]
  unfold b__law_fraction
  have hB := nfB_pos (a := a) hb
  by_cases hn : b < 0
  · simp [dLt_int, hn, dSub_int]
    refine em_of (low_eq (a := -a) (b := -b) (by omega) (by rw [Int.natAbs_neg]; exact hz)) ?_
    rw [nf_neg.1, nf_neg.2]
    simp [dIx_t0, dIx_t1, dGt_int, hB]
  · simp [dLt_int, hn]
    refine em_of (low_eq (by omega) hz) ?_
    simp [dIx_t0, dIx_t1, dGt_int, hB]
end My
namespace My
open PySem PySem.Spec PyProof.Rows L2 DL
structure Lf (d : D) : Prop where
  pl : ∀ ds, d = .tuple ds → PyData.plainAll ds = true ∧ ds.length ≤ sizeLine
  sm : ∀ p q, d = .tuple [.int p, .int q] → q.natAbs < 10 ^ 2000
theorem eqv_pair {a b c d : Int} : PyData.eqv (.tuple [.int a, .int b]) (.tuple [.int c, .int d]) = ((a == c) && (b == d)) := by
  simp [PyData.eqv, PyData.eqvAll]
theorem dEq_pair {a b c d : Int} : dEq (.tuple [.int a, .int b]) (.tuple [.int c, .int d]) = some (db ((a == c) && (b == d))) := by
  unfold dEq
  rw [if_pos ⟨rfl, rfl, by show min 1 1 ≤ 100; decide⟩, eqv_pair]
theorem nf_same {p q : Int} (h : 0 < q) : ((nfA p q == p) && (nfB p q == q)) = ((Int.gcd p q : Int) == 1) := by
  by_cases hg : Int.gcd p q = 1
  · rw [(nf_of h hg).1, (nf_of h hg).2, hg]
    simp
  · have e1 : ((Int.gcd p q : Int) == 1) = false := by
      rw [beq_eq_false_iff_ne]
      omega
    rw [e1]
    have e2 : (nfB p q == q) = false := by
      rw [beq_eq_false_iff_ne]
      intro e
      have g0 := gcd_pos (a := p) (show q ≠ 0 by omega)
      have := nfB_le (a := p) (show q ≠ 0 by omega)
      unfold nfB at e
      rw [← Int.natCast_ediv] at e
      have h2 : q.natAbs / Int.gcd p q < q.natAbs := Nat.div_lt_self (by omega) (by omega)
      omega
    rw [e2, Bool.and_false]
theorem law_frac_eq {d : D} {cs : Cs} (h : Lf d) : m__law_is_fraction [.dat d] cs = some (db (fracB d), cs) := by
  refine em_eq ?_
  unfold m__law_is_fraction
  rw [em_fnM]
  unfold b__law_is_fraction
  cases d with
  | tuple ds =>
    obtain ⟨h1, h2⟩ := h.pl ds rfl
    have comp : ∀ (ρ : Rho) (Q : List D → Cs → Prop), 1 < ρ.length → Q (ds.filter fun x => !wholeB x) cs → Ec (gNm 1) (mTOr (mTru (mU (dIsi "bool") (xVar 1))) (mTNot (mTru (mU (dIsi "int") (xVar 1))))) (xVar 1) ds (wipeR ρ [1]) cs [] Q := fun ρ Q hl q => by
      refine ec_pure (fun x => !wholeB x) id (fun x hx cs' => ?_) (by simpa using h2) (by simpa using q)
      have w1 : 1 < (wipeR ρ [1]).length := by simp [wipeR]; omega
      cases x <;> simp [w1, isi_bool, isi_int, wholeB]
    match ds, h, h1, h2, comp with
    | [], h, h1, h2, comp => simp [isi_tuple, dLen, fdNe_int, fracB]
    | [_], h, h1, h2, comp => simp [isi_tuple, dLen, fdNe_int, fracB]
    | x :: y :: z :: r, h, h1, h2, comp =>
      simp [isi_tuple, dLen, fdNe_int, fracB]
      intro h
      exfalso
      have := Int.natCast_nonneg r.length
      omega
    | [x, y], h, h1, h2, comp =>
      simp [isi_tuple, dLen, fdNe_int]
      refine comp _ _ (by simp) ?_
      rw [dNe_nil (plain_filter h1)]
      by_cases hw : wholeB x = true ∧ wholeB y = true
      · obtain ⟨p, rfl⟩ : ∃ p, x = .int p := by
          cases x with
          | int p => exact ⟨p, rfl⟩
          | _ => cases hw.1
        obtain ⟨q, rfl⟩ : ∃ p, y = .int p := by
          cases y with
          | int p => exact ⟨p, rfl⟩
          | _ => cases hw.2
        have hs := h.sm p q rfl
        simp [wholeB, dIx_t0, dIx_t1, dGt_int]
        by_cases hq : 0 < q
        · simp [hq]
          refine em_of (lfrac_eq (by omega) hs) ?_
          simp [dEq_pair, fracB]
          have := nf_same (p := p) hq
          rw [this]
          simp
          omega
        · simp [hq, fracB]
          omega
      · have e : ([x, y].filter fun x => !wholeB x).isEmpty = false := by
          cases hx : wholeB x with
          | false => simp [hx]
          | true =>
            cases hy : wholeB y with
            | false => simp [hx, hy]
            | true => exact absurd ⟨hx, hy⟩ hw
        rw [e]
        have f : fracB (.tuple [x, y]) = false := by
          cases x <;> cases y <;> first | rfl | exact absurd ⟨rfl, rfl⟩ hw
        simp [f]
  | _ => simp [isi_tuple, fracB]
/-! fractions as pairs -/
abbrev Fq := Int × Int
def fr (x : Fq) : D := .tuple [.int x.1, .int x.2]
structure FrB (n : Nat) (x : Fq) : Prop where
  pos : 0 < x.2
  low : Int.gcd x.1 x.2 = 1
  a : x.1.natAbs < 2 ^ n
  b : x.2.natAbs < 2 ^ n
theorem FrB.mono {n m : Nat} {x : Fq} (h : FrB n x) (l : n ≤ m) : FrB m x := ⟨h.pos, h.low, pow_le h.a l, pow_le h.b l⟩
theorem FrB.frac {n : Nat} {x : Fq} (h : FrB n x) : fracB (fr x) = true := by
  show (decide (1 ≤ x.2) && ((Int.gcd x.1 x.2 : Int) == 1)) = true
  rw [h.low, decide_eq_true (by have := h.pos; omega)]
  rfl
def nf2 (a b : Int) : Fq := (nfA a b, nfB a b)
theorem nf2_ok {a b : Int} {n : Nat} (hb : b ≠ 0) (h1 : a.natAbs < 2 ^ n) (h2 : b.natAbs < 2 ^ n) : FrB n (nf2 a b) :=
  ⟨nfB_pos hb, nf_gcd hb, Nat.lt_of_le_of_lt nfA_le h1, Nat.lt_of_le_of_lt (nfB_le hb) h2⟩
def plusF (x y : Fq) : Fq := nf2 (x.1 * y.2 + y.1 * x.2) (x.2 * y.2)
def timesF (x y : Fq) : Fq := nf2 (x.1 * y.1) (x.2 * y.2)
theorem FrB.ne {n : Nat} {x : Fq} (h : FrB n x) : x.2 ≠ 0 := by have := h.pos; omega
theorem plusF_ok {n m : Nat} {x y : Fq} (h : FrB n x) (g : FrB m y) : FrB (n + m + 1) (plusF x y) := by
  refine nf2_ok (Int.mul_ne_zero h.ne g.ne) ?_ (pow_le (lg_mul h.b g.b) (by omega))
  exact lg_add (lg_mul h.a g.b) (by rw [Nat.add_comm n m]; exact lg_mul g.a h.b)
theorem timesF_ok {n m : Nat} {x y : Fq} (h : FrB n x) (g : FrB m y) : FrB (n + m + 1) (timesF x y) :=
  nf2_ok (Int.mul_ne_zero h.ne g.ne) (pow_le (lg_mul h.a g.a) (by omega)) (pow_le (lg_mul h.b g.b) (by omega))
theorem plus_fr {n m : Nat} {x y : Fq} {cs : Cs} (h : FrB n x) (g : FrB m y) (hn : n ≤ 4000) (hm : m ≤ 4000) : m_plus_of [.dat (fr x), .dat (fr y)] cs = some (.dat (fr (plusF x y)), cs) := by
  have h' := h.mono (show n ≤ max n m by omega)
  have g' := g.mono (show m ≤ max n m by omega)
  exact plus_eq (n := max n m) h'.a h'.b g'.a g'.b h.ne g.ne (by omega)
theorem times_fr {n m : Nat} {x y : Fq} {cs : Cs} (h : FrB n x) (g : FrB m y) (hn : n ≤ 4000) (hm : m ≤ 4000) : m_times_of [.dat (fr x), .dat (fr y)] cs = some (.dat (fr (timesF x y)), cs) := by
  have h' := h.mono (show n ≤ max n m by omega)
  have g' := g.mono (show m ≤ max n m by omega)
  exact times_eq (n := max n m) h'.a h'.b g'.a g'.b h.ne g.ne (by omega)
theorem check_frac_eq {n : Nat} {x : Fq} {cs : Cs} (h : FrB n x) : m_check_fraction [.dat (fr x)] cs = some (.dat .none, cs) := by
  refine em_eq ?_
  unfold m_check_fraction
  rw [em_fnM]
  unfold b_check_fraction
  simp
  refine em_of is_fraction_eq ?_
  simp [h.frac]
theorem check_list_eq {ds : List D} {cs : Cs} : m_check_list [.dat (.list ds)] cs = some (.dat .none, cs) := by
  refine em_eq ?_
  unfold m_check_list
  rw [em_fnM]
  unfold b_check_list
  simp [isi_list]
theorem checks_eq {xs : List Fq} {cs : Cs} (h : ∀ x ∈ xs, ∃ n, FrB n x) : m_check_fractions [.dat (.list (xs.map fr))] cs = some (.dat .none, cs) := by
  refine em_eq ?_
  unfold m_check_fractions
  rw [em_fnM]
  unfold b_check_fractions
  simp
  refine em_of check_list_eq ?_
  refine el_inv (k := 0) (fun i ρ cs' => cs' = cs ∧ ∃ a, ρ = [some (.dat (.list (xs.map fr))), a]) ⟨rfl, none, rfl⟩ ?_ ?_
  · rintro i d ρ cs' hd ⟨rfl, a, rfl⟩
    obtain ⟨x, hx, rfl⟩ := List.mem_map.mp (List.mem_of_getElem? hd)
    obtain ⟨n, hn⟩ := h x hx
    simp
    refine em_of (check_frac_eq hn) ?_
    simp
  · rintro ρ cs' ⟨rfl, a, rfl⟩
    simp
theorem take_fold {f : Fq → Fq → Fq} {xs : List Fq} {i : Nat} {x z : Fq} (h : xs[i]? = some x) : (xs.take (i + 1)).foldl f z = f ((xs.take i).foldl f z) x := by
  rw [List.take_add_one, h, List.foldl_append]
  rfl
theorem fold_ok {f : Fq → Fq → Fq} (hf : ∀ {n m : Nat} {x y : Fq}, FrB n x → FrB m y → FrB (n + m + 1) (f x y)) {m : Nat} {z : Fq} (hz : FrB 1 z) : ∀ {xs : List Fq}, (∀ x ∈ xs, FrB m x) → ∀ i ≤ xs.length, FrB (1 + i * (m + 1)) ((xs.take i).foldl f z)
  | xs, h, 0, _ => by simpa using hz
  | xs, h, i + 1, hi => by
    have ih := fold_ok hf hz h i (by omega)
    have hx : xs[i]? = some xs[i] := List.getElem?_eq_getElem (by omega)
    rw [take_fold hx]
    refine (hf ih (h _ (List.getElem_mem _))).mono ?_
    rw [Nat.succ_mul]
    omega
theorem one_ok : FrB 1 (1, 1) := ⟨by decide, by decide, by decide, by decide⟩
theorem zero_ok : FrB 1 (0, 1) := ⟨by decide, by decide, by decide, by decide⟩
theorem sum_eq {m : Nat} {xs : List Fq} {cs : Cs} (h : ∀ x ∈ xs, FrB m x) (hm : ∀ i, i < xs.length → 1 + i * (m + 1) ≤ 4000) (hm2 : m ≤ 4000) : m_sum_of [.dat (.list (xs.map fr))] cs = some (.dat (fr (xs.foldl plusF (0, 1))), cs) := by
  refine em_eq ?_
  unfold m_sum_of
  rw [em_fnM]
  unfold b_sum_of
  simp
  refine em_of (checks_eq fun x hx => ⟨m, h x hx⟩) ?_
  simp [two_fit]
  refine el_inv (k := 0) (fun i ρ cs' => cs' = cs ∧ ∃ a, ρ = [some (.dat (.list (xs.map fr))), some (.dat (fr ((xs.take i).foldl plusF (0, 1)))), a]) ⟨rfl, none, rfl⟩ ?_ ?_
  · rintro i d ρ cs' hd ⟨rfl, a, rfl⟩
    rw [List.getElem?_map] at hd
    obtain ⟨x, hx, rfl⟩ := Option.map_eq_some_iff.mp hd
    have hi : i < xs.length := (List.getElem?_eq_some_iff.mp hx).1
    have ih := fold_ok plusF_ok zero_ok h i (by omega)
    have hle : 1 + i * (m + 1) ≤ 4000 := hm i hi
    rw [Nat.zero_add]
    simp
    refine em_of (plus_fr ih (h x (List.mem_of_getElem? hx)) hle hm2) ?_
    simp
    rw [take_fold hx]
  · rintro ρ cs' ⟨rfl, a, rfl⟩
    simp
theorem product_eq {m : Nat} {xs : List Fq} {cs : Cs} (h : ∀ x ∈ xs, FrB m x) (hm : 1 + xs.length * (m + 1) ≤ 4000) (hm2 : m ≤ 4000) : m_product_of [.dat (.list (xs.map fr))] cs = some (.dat (fr (xs.foldl timesF (1, 1))), cs) := by
  refine em_eq ?_
  unfold m_product_of
  rw [em_fnM]
  unfold b_product_of
  simp
  refine em_of (checks_eq fun x hx => ⟨m, h x hx⟩) ?_
  simp [two_fit]
  refine el_inv (k := 0) (fun i ρ cs' => cs' = cs ∧ ∃ a, ρ = [some (.dat (.list (xs.map fr))), some (.dat (fr ((xs.take i).foldl timesF (1, 1)))), a]) ⟨rfl, none, rfl⟩ ?_ ?_
  · rintro i d ρ cs' hd ⟨rfl, a, rfl⟩
    rw [List.getElem?_map] at hd
    obtain ⟨x, hx, rfl⟩ := Option.map_eq_some_iff.mp hd
    have hi : i < xs.length := (List.getElem?_eq_some_iff.mp hx).1
    have ih := fold_ok timesF_ok one_ok h i (by omega)
    have hle : 1 + i * (m + 1) ≤ 4000 := Nat.le_trans (Nat.add_le_add_left (Nat.mul_le_mul_right _ (Nat.le_of_lt hi)) 1) hm
    rw [Nat.zero_add]
    simp
    refine em_of (times_fr ih (h x (List.mem_of_getElem? hx)) hle hm2) ?_
    simp
    rw [take_fold hx]
  · rintro ρ cs' ⟨rfl, a, rfl⟩
    simp
theorem is_less_eq {n : Nat} {x y : Fq} {cs : Cs} (h : FrB n x) (g : FrB n y) (hn : n ≤ 4000) : m_is_less [.dat (fr x), .dat (fr y)] cs = some (db (decide (x.1 * y.2 < y.1 * x.2)), cs) := by
  refine em_eq ?_
  unfold m_is_less
  rw [em_fnM]
  unfold b_is_less
  simp
  refine em_of (check_frac_eq h) ?_
  refine em_of (check_frac_eq g) ?_
  unfold m_less_than
  rw [em_fnM]
  unfold b_less_than
  have c1 : CMl x.1 y.2 := cml n n h.a g.b (by omega)
  have c2 : CMl y.1 x.2 := cml n n g.a h.b (by omega)
  simp [fr, dIx_t0, dIx_t1, dMul_int c1, dMul_int c2, dLt_int]
theorem frac_of_eq {a b : Int} {cs : Cs} (hb : b ≠ 0) (hz : b.natAbs < 2 ^ 8000) : m_fraction_of [.dat (.int a), .dat (.int b)] cs = some (.dat (fr (nf2 a b)), cs) := by
  refine em_eq ?_
  unfold m_fraction_of
  rw [em_fnM]
  unfold b_fraction_of
  simp
  refine em_of is_whole_eq ?_
  simp [wholeB]
  refine em_of is_whole_eq ?_
  simp [wholeB, fdEq_int, hb]
  refine em_of (lowest_eq hb hz) ?_
  simp [fr, nf2]
end My
namespace My
open PySem PySem.Spec PyProof.Rows L2 DL
def bigI (d : D) : Prop := ∃ i : Int, d = .int i ∧ i.natAbs < 2 ^ 34
theorem big_em {k : Nat} {b : Int} {cs : Cs} {c : List D} {Q : Rv → Cs → Prop} (hc : cs[k]? = some (some c)) (hg : Gs b c) (hb : b + 300 ≤ 10 ^ 20) (h : ∀ (i : Int) (c' : List D), i.natAbs < 2 ^ 34 → Gs (b + 300) c' → Q (di i) (cs.set k (some c'))) : Em m__law_big [.own k] cs Q := by
  unfold m__law_big
  rw [em_fnM]
  unfold b__law_big
  have p1 : dPow (.int 10) (.int 10) = some (di 10000000000) := by
    show (if CPw 10 10 then some (di (10 ^ (10 : Int).toNat)) else none) = _
    rw [if_pos (by decide)]
    rfl
  simp [p1, le_size]
  refine pick_em hc hg (by omega) (by simp) (by simp) fun d c1 hd g1 => ?_
  have hd' : ∃ n : Int, d = .int n ∧ 0 < n ∧ n ≤ 10000000000 := by
    simp at hd
    rcases hd with rfl | rfl | rfl | rfl
    · exact ⟨3, rfl, by decide, by decide⟩
    · exact ⟨12, rfl, by decide, by decide⟩
    · exact ⟨1000, rfl, by decide, by decide⟩
    · exact ⟨10000000000, rfl, by decide, by decide⟩
  obtain ⟨n, rfl, n0, n1⟩ := hd'
  simp
  refine random_em (get_set hc) g1 (by omega) n0 (Int.lt_of_le_of_lt n1 (Int.lt_trans (show (10000000000 : Int) < 2 ^ 40 by decide) (by decide))) fun r c2 r0 r1 g2 => ?_
  simp [dSub_int, le_size]
  refine pick_em (get_set hc) g2 (by omega) (by simp) (by simp) fun d c3 hd g3 => ?_
  have hd' : ∃ s : Int, d = .int s ∧ s.natAbs = 1 := by
    simp at hd
    rcases hd with rfl | rfl
    · exact ⟨1, rfl, rfl⟩
    · exact ⟨-1, rfl, rfl⟩
  obtain ⟨s, rfl, s1⟩ := hd'
  have r34 : r.natAbs < 2 ^ 34 := by omega
  simp [dMul_int (cml (i := r) (j := s) 34 1 r34 (by omega))]
  rw [List.take_of_length_le (by simp)]
  refine h _ _ ?_ (g3.mono (by omega))
  rw [Int.natAbs_mul, s1, Nat.mul_one]
  exact r34
def Pr (d : D) : Prop := ∃ a c : Int, d = .tuple [.int a, .int c] ∧ c ≠ 0 ∧ a.natAbs < 2 ^ 34 ∧ c.natAbs < 2 ^ 34
theorem pair_em {k : Nat} {b : Int} {cs : Cs} {c : List D} {Q : Rv → Cs → Prop} (hc : cs[k]? = some (some c)) (hg : Gs b c) (hb : b + 600 ≤ 10 ^ 20) (h : ∀ (d : D) (c' : List D), Pr d → Gs (b + 600) c' → Q (.dat d) (cs.set k (some c'))) : Em m__law_drawn_pair [.own k] cs Q := by
  unfold m__law_drawn_pair
  rw [em_fnM]
  unfold b__law_drawn_pair
  simp
  refine big_em hc hg (by omega) fun i c1 hi g1 => ?_
  simp
  refine big_em (get_set hc) g1 (by omega) fun j c2 hj g2 => ?_
  by_cases h0 : i = 0
  · subst h0
    simp [dEq_int, two_fit]
    rw [List.take_of_length_le (by simp)]
    exact h _ _ ⟨j, 1, rfl, by decide, hj, by decide⟩ (g2.mono (by omega))
  · simp [dEq_int, two_fit, h0]
    rw [List.take_of_length_le (by simp)]
    exact h _ _ ⟨j, i, rfl, h0, hj, hi⟩ (g2.mono (by omega))
def nfD (d : D) : D := match d with
  | .tuple [.int a, .int c] => fr (nf2 a c)
  | d => d
theorem pairs_fr : ∀ {ds : List D}, (∀ d ∈ ds, Pr d) → ∃ xs : List Fq, ds.map nfD = xs.map fr ∧ (∀ x ∈ xs, FrB 34 x) ∧ xs.length = ds.length
  | [], _ => ⟨[], rfl, by simp, rfl⟩
  | d :: ds, h => by
    obtain ⟨a, c, rfl, h1, h2, h3⟩ := h d (List.mem_cons_self ..)
    obtain ⟨xs, e, hx, hl⟩ := pairs_fr fun x hx => h x (List.mem_cons_of_mem _ hx)
    refine ⟨nf2 a c :: xs, by rw [List.map_cons, List.map_cons, e]; rfl, fun x hm => ?_, by simp [hl]⟩
    rcases List.mem_cons.mp hm with rfl | hm
    · exact nf2_ok h1 h2 h3
    · exact hx x hm
/-! repr of lists of fractions -/
def okN (d : D) : Bool := d.showable && d.leavesShort 41 && !d.hasDict && decide (d.depth ≤ 90) && decide (d.bulk ≤ 100000)
theorem okN_rok {d : D} (h : okN d = true) (hf : flatD d = true) : rOk d = true := by
  unfold okN at h
  simp only [Bool.and_eq_true, decide_eq_true_eq] at h
  obtain ⟨⟨⟨⟨h1, h2⟩, h3⟩, h4⟩, h5⟩ := h
  refine rok h1 hf (by omega) ?_
  have := PyData.shown_le_bulk 41 (by decide) d h2
  rw [sizeLine_eq]
  omega
theorem fr_leaf {n : Nat} {x : Fq} (h : FrB n x) (hn : n ≤ 100) : (∀ y ∈ ([.int x.1, .int x.2] : List D), flB y = true) := by
  intro y hy
  have p : (2 : Nat) ^ 100 < 10 ^ 40 := by decide
  rcases List.mem_cons.mp hy with rfl | hy
  · exact decide_eq_true (Nat.lt_trans (pow_le h.a hn) p)
  · rcases List.mem_cons.mp hy with rfl | hy
    · exact decide_eq_true (Nat.lt_trans (pow_le h.b hn) p)
    · cases hy
theorem frs_ok : ∀ {xs : List Fq}, (∀ x ∈ xs, FrB 34 x) → PyData.showableAll (xs.map fr) = true ∧ PyData.leavesShortAll 41 (xs.map fr) = true ∧ PyData.bulkAll (xs.map fr) ≤ 3 * xs.length ∧ PyData.depthAll (xs.map fr) ≤ 1 ∧ PyData.hasDictAll (xs.map fr) = false ∧ PyData.plainAll (xs.map fr) = true
  | [], _ => ⟨rfl, rfl, Nat.le_refl _, Nat.zero_le _, rfl, rfl⟩
  | x :: xs, h => by
    obtain ⟨a1, a2, a3, a4, a5, a6⟩ := fls (fr_leaf (h x (List.mem_cons_self ..)) (by decide))
    obtain ⟨h1, h2, h3, h4, h5, h6⟩ := frs_ok fun y hy => h y (List.mem_cons_of_mem _ hy)
    refine ⟨?_, ?_, ?_, ?_, ?_, ?_⟩
    · show (PyData.showableAll [.int x.1, .int x.2] && PyData.showableAll (xs.map fr)) = true
      rw [a1, h1]; rfl
    · show (PyData.leavesShortAll 41 [.int x.1, .int x.2] && PyData.leavesShortAll 41 (xs.map fr)) = true
      rw [a2, h2]; rfl
    · show PyData.bulkAll [.int x.1, .int x.2] + 1 + PyData.bulkAll (xs.map fr) ≤ 3 * (xs.length + 1)
      rw [show PyData.bulkAll [.int x.1, .int x.2] = 2 from rfl]
      omega
    · show max (PyData.depthAll [.int x.1, .int x.2] + 1) (PyData.depthAll (xs.map fr)) ≤ 1
      rw [a4]; omega
    · show (PyData.hasDictAll [.int x.1, .int x.2] || PyData.hasDictAll (xs.map fr)) = false
      rw [a5, h5]; rfl
    · show (PyData.plainAll [.int x.1, .int x.2] && PyData.plainAll (xs.map fr)) = true
      rw [a6, h6]; rfl
theorem rok_frs {xs : List Fq} (h : ∀ x ∈ xs, FrB 34 x) (hl : xs.length ≤ 100) : rOk (.list (xs.map fr)) = true := by
  obtain ⟨h1, h2, h3, h4, h5, h6⟩ := frs_ok h
  refine rok h1 (by show (!PyData.hasDictAll _) = true; rw [h5]; rfl) (by show PyData.depthAll _ + 1 ≤ 100; omega) ?_
  have := PyData.shown_le_bulk 41 (by decide) (.list (xs.map fr)) h2
  have e : PyData.bulk (.list (xs.map fr)) = PyData.bulkAll (xs.map fr) := rfl
  rw [e] at this
  rw [sizeLine_eq]
  omega
/-! values -/
structure Vf (d : D) : Prop where
  ok : rOk d = true
  lf : Lf d
theorem vf_tuple {ds : List D} (h : ∀ x ∈ ds, flB x = true) (hl : ds.length ≤ 100) : Vf (.tuple ds) := by
  refine ⟨(gd_tuple h hl).ok, fun ds' e => ?_, fun p q e => ?_⟩
  · cases e
    exact ⟨(fls h).2.2.2.2.2, by rw [sizeLine_eq]; omega⟩
  · cases e
    have := h (.int q) (by simp)
    exact Nat.lt_of_lt_of_le (of_decide_eq_true this) (Nat.pow_le_pow_right (by decide) (by decide))
theorem vf_list {ds : List D} (h : ∀ x ∈ ds, flB x = true) (hl : ds.length ≤ 100) : Vf (.list ds) := ⟨(gd_list h hl).ok, nofun, nofun⟩
theorem vf_fl {d : D} (h : flB d = true) : Vf d := by
  refine ⟨(gd_fl h).ok, fun ds' e => ?_, fun p q e => ?_⟩
  · subst e; cases h
  · subst e; cases h
def vfB (d : D) : Bool := rOk d && match d with
  | .tuple ds => PyData.plainAll ds && decide (ds.length ≤ sizeLine) && ds.all fun x => match x with
    | .int q => decide (q.natAbs < 10 ^ 40)
    | _ => true
  | _ => true
theorem vfB_ok {d : D} (h : vfB d = true) : Vf d := by
  unfold vfB at h
  obtain ⟨h1, h2⟩ := Bool.and_eq_true_iff.mp h
  refine ⟨h1, fun ds e => ?_, fun p q e => ?_⟩
  · subst e
    simp only [Bool.and_eq_true, decide_eq_true_eq] at h2
    exact h2.1
  · subst e
    simp only [Bool.and_eq_true] at h2
    have h3 := List.all_eq_true.mp h2.2 (.int q) (by simp)
    have h4 := of_decide_eq_true h3
    exact Nat.lt_of_lt_of_le h4 (Nat.pow_le_pow_right (by decide) (by decide))
theorem menu_vf : menuD.all (fun d => vfB d && cpOk 6 d) = true := by decide +kernel
theorem anyv_em {k : Nat} {b : Int} {cs : Cs} {c : List D} {Q : Rv → Cs → Prop} (hc : cs[k]? = some (some c)) (hg : Gs b c) (hb : b ≤ 10 ^ 19) (h : ∀ (d : D) (c' : List D), Vf d → Gs (b + 100) c' → Q (cpR d) (cs.set k (some c'))) : Em m__law_any [.own k] cs Q := by
  unfold m__law_any
  rw [em_fnM]
  unfold b__law_any
  simp [mul_z20, mul_z21, mul_a200, dNeg_int, dPow_11, dAdd_list, le_size]
  refine pick_em hc hg (by omega) (by simp) (by simp) fun d c2 hd g2 => ?_
  have hm : d ∈ menuD := hd
  have hd' := List.all_eq_true.mp menu_vf d hm
  rw [Bool.and_eq_true] at hd'
  simp only [deg_dat]
  refine em_of (copied_eq 6 d _ hd'.2) ?_
  exact ret_cp (by simp) (h d c2 (vfB_ok hd'.1) g2)
theorem exact6 {d : D} {cs : Cs} (h : exOk 6 d = true) : m__law_exact [.dat d, .dat d] cs = some (db true, cs) := exact_eq 6 d cs h
theorem dNe_str {x y : Str} : dNe (.str x) (.str y) = some (db (!(x == y))) := by
  unfold dNe
  rw [if_pos ⟨rfl, rfl, by show min 0 0 ≤ 100; decide⟩]
  rfl
theorem dMul_one {x : D} : dMul (.list [x]) (.int 2) = some (.fr [x, x]) := by
  show (if 0 ≤ (2 : Int) ∧ (2 : Int) < 2 ^ 31 ∧ ([x] : List D).length * (2 : Int).toNat ≤ sizeLine then some (Rv.fr (List.replicate (2 : Int).toNat [x]).flatten) else none) = _
  rw [if_pos (c := 0 ≤ (2 : Int) ∧ (2 : Int) < 2 ^ 31 ∧ ([x] : List D).length * (2 : Int).toNat ≤ sizeLine) ⟨by decide, by decide, le_size (by simp)⟩]
  rfl
theorem val_loop {n0 : Nat} {ρ : Rho} {cs : Cs} {ds : List D} {QS : Out → Prop} (hl : 8 < ρ.length) (h : ∀ d ∈ ds, Vf d) (q : ∀ a b, QS (.nx ((ρ.set 5 a).set 8 b) cs)) :
    El (gNm 5) (sSeq (sSet 8 (mCall dRepr (aCons (xVar 5) aNil)))
  (sIf (mTOr (mTNot (mTru (mCallF 2 m__law_exact (aCons (xLst (aCons (mCallF 1 m_is_fraction (aCons (xVar 5) aNil)) (aCons (mCallK 0 1 1 [0] m_is_fraction aNil (aCons (xVar 5) aNil)) aNil))) (aCons (mB dMul (xLst (aCons (mCallF 1 m__law_is_fraction (aCons (xVar 5) aNil)) aNil)) (xC (.int 2))) aNil))))) (mTB (mB dNe (mCall dRepr (aCons (xVar 5) aNil)) (xVar 8)))) (sRet (xC (.bool false))) sNil)) n0 ds ρ cs QS := by
  refine el_inv (k := 0) (fun i ρ' cs' => cs' = cs ∧ ∃ a b, ρ' = (ρ.set 5 a).set 8 b) ⟨rfl, ρ[5], ρ[8], by rw [List.set_getElem_self, List.set_getElem_self]⟩ ?_ ?_
  · rintro i d ρ' cs' hd ⟨rfl, a, b, rfl⟩
    have g := h d (List.mem_of_getElem? hd)
    have l5 : 5 < ρ.length := by omega
    simp [hl, l5, repr_ok g.ok]
    refine em_of is_fraction_eq ?_
    simp [pick0]
    refine em_of is_fraction_eq ?_
    simp [two_fit]
    refine em_of (law_frac_eq g.lf) ?_
    simp [dMul_one, le_size]
    refine em_of (exact6 (by simp [exOk, le_size])) ?_
    simp [dNe_str]
    exact ⟨_, _, by rw [List.set_comm _ _ (show (8 : Nat) ≠ 5 by decide), List.set_set, List.set_set]⟩
  · rintro ρ' cs' ⟨rfl, a, b, rfl⟩
    exact q a b
end My
namespace My
open PySem PySem.Spec PyProof.Rows L2 DL
theorem pick10 {r s : Rv} : pick [1, 0] [r, s] = [s, r] := rfl
theorem fr_ex {x : Fq} {n : Nat} : exOk (n + 2) (fr x) = true := by
  show (decide (([.int x.1, .int x.2] : List D).length ≤ sizeLine) && ([.int x.1, .int x.2] : List D).all (exOk (n + 1))) = true
  rw [decide_eq_true (le_size (by simp))]
  rfl
theorem dAdd_tup {x y : List D} : dAdd (.tuple x) (.tuple y) = if x.length + y.length ≤ sizeLine then some (.dat (.tuple (x ++ y))) else none := rfl
theorem cut_pair {x y : D} : DL.cutD [x, y] none (some 1) = [x] := rfl
theorem dList_tup {ds : List D} : dList [.tuple ds] = some (.fr ds) := rfl
theorem flI {i : Int} (h : i.natAbs < 2 ^ 100) : flB (.int i) = true := decide_eq_true (Nat.lt_trans h (by decide))
theorem made_em {k : Nat} {b : Int} {cs : Cs} {c : List D} {Q : Rv → Cs → Prop} (hc : cs[k]? = some (some c)) (hg : Gs b c) (hb : b ≤ 10 ^ 17) (h : ∀ (c' : List D), Gs (b + 1000) c' → Q (db true) (cs.set k (some c'))) : Em m__law_made_right [.own k] cs Q := by
  unfold m__law_made_right
  rw [em_fnM]
  unfold b__law_made_right
  simp
  refine pair_em hc hg (by omega) fun d c1 hd g1 => ?_
  obtain ⟨a, e, rfl, he, ha, he2⟩ := hd
  simp
  refine random_em (get_set hc) g1 (by omega) (by decide) (Int.lt_trans (show (9 : Int) < 10 by decide) (by decide)) fun r c2 r0 r1 g2 => ?_
  simp [dAdd_int]
  have t0 : 0 < 1 + r := by omega
  have t1 : (1 + r).natAbs < 2 ^ 4 := by omega
  have big : (10 : Nat) ^ 2000 > 2 ^ 40 := Nat.lt_of_lt_of_le (show (2 : Nat) ^ 40 < 10 ^ 13 by decide) (Nat.pow_le_pow_right (by decide) (by decide))
  refine em_of (lfrac_eq he (Nat.lt_trans (pow_le he2 (show 34 ≤ 40 by decide)) big)) ?_
  have z34 : ∀ x : Int, x.natAbs < 2 ^ 34 → x.natAbs < 2 ^ 8000 := fun x hx => pow_le hx (by decide)
  simp
  refine em_of (frac_of_eq he (z34 _ he2)) ?_
  simp [dMul_int (cml 34 4 he2 t1), dMul_int (cml 34 4 ha t1), pick10]
  refine em_of (frac_of_eq (Int.mul_ne_zero he (by omega)) (pow_le (lg_mul he2 t1) (by decide))) ?_
  have em1 : nf2 (a * (1 + r)) (e * (1 + r)) = nf2 a e := Prod.ext (nf_mul t0 he).1 (nf_mul t0 he).2
  have em2 : nf2 (-a) (-e) = nf2 a e := Prod.ext nf_neg.1 nf_neg.2
  simp [dSub_int, em1]
  refine em_of (frac_of_eq (show -e ≠ 0 by omega) (by rw [Int.natAbs_neg]; exact z34 _ he2)) ?_
  rw [em2]
  have ef : (PyData.tuple [.int (nfA a e), .int (nfB a e)]) = fr (nf2 a e) := rfl
  simp [le_size]
  have F : FrB 34 (nf2 a e) := nf2_ok he ha he2
  have fA : flB (.int (nfA a e)) = true := flI (pow_le F.a (by decide))
  have fB : flB (.int (nfB a e)) = true := flI (pow_le F.b (by decide))
  have fBn : flB (.int (-nfB a e)) = true := flI (by rw [Int.natAbs_neg]; exact pow_le F.b (by decide))
  have fa : flB (.int a) = true := flI (pow_le ha (by decide))
  have fe : flB (.int e) = true := flI (pow_le he2 (by decide))
  have fat : flB (.int (a * (1 + r))) = true := flI (pow_le (lg_mul ha t1) (by decide))
  have fet : flB (.int (e * (1 + r))) = true := flI (pow_le (lg_mul he2 t1) (by decide))
  have f0 : flB (.int 0) = true := rfl
  have f1 : flB (.int 1) = true := rfl
  have f2 : flB (.int 2) = true := rfl
  refine em_of (exact6 (d := .list [fr (nf2 a e), fr (nf2 a e), fr (nf2 a e)]) ?_) ?_
  · show (decide (3 ≤ sizeLine) && [fr (nf2 a e), fr (nf2 a e), fr (nf2 a e)].all (exOk 5)) = true
    rw [decide_eq_true (le_size (by decide))]
    simp [fr_ex]
  simp [dList_tup, dAdd_tup, dSl, cut_pair, dIx_t0, dIx_t1, dSub_int, le_size]
  refine anyv_em (get_set hc) g2 (by omega) fun dv c3 gv g3 => ?_
  simp [cpR_deg, dAdd_list, le_size]
  refine val_loop (by simp) ?_ fun x y => ?_
  · intro d hd
    simp at hd
    rcases hd with rfl | rfl | rfl | rfl | rfl | rfl | rfl | rfl | rfl | rfl | rfl | rfl | rfl | rfl | rfl | rfl | rfl | rfl | rfl | rfl | rfl | rfl
    all_goals first
      | exact gv
      | exact vfB_ok (by decide +kernel)
      | exact vf_fl fa
      | exact vf_tuple (by simp [fA, fB, fBn, fa, fe, fat, fet, f0, f1, f2]) (by simp)
      | exact vf_list (by simp [fA, fB, fBn, fa, fe, fat, fet, f0, f1, f2]) (by simp)
  · simp
    rw [List.take_of_length_le (by simp)]
    exact h _ (g3.mono (by omega))
end My
namespace My
open PySem PySem.Spec PyProof.Rows L2 DL
theorem lfr {n : Nat} {a b : Int} {cs : Cs} {Q : Rv → Cs → Prop} (hb : b ≠ 0) (hz : b.natAbs < 2 ^ n) (hn : n ≤ 6000) (q : Q (.dat (fr (nf2 a b))) cs) : Em m__law_fraction [.dat (.int a), .dat (.int b)] cs Q := by
  refine em_of (lfrac_eq hb ?_) q
  have h1 : (2 : Nat) ^ 6000 ≤ 8 ^ 2000 := by
    rw [show (8 : Nat) = 2 ^ 3 from rfl, ← Nat.pow_mul]
    exact Nat.le_refl _
  exact Nat.lt_of_lt_of_le (pow_le hz hn) (Nat.le_trans h1 (Nat.pow_le_pow_left (by decide) _))
/-- a sum by the law's own fractions -/
theorem lplus {n m : Nat} {x y : Fq} {cs : Cs} {Q : Rv → Cs → Prop} (h : FrB n x) (g : FrB m y) (hn : n + m ≤ 5000) (q : Q (.dat (fr (plusF x y))) cs) :
    CMl x.1 y.2 ∧ CMl y.1 x.2 ∧ CMl x.2 y.2 ∧ Em m__law_fraction [.dat (.int (x.1 * y.2 + y.1 * x.2)), .dat (.int (x.2 * y.2))] cs Q :=
  ⟨cml n m h.a g.b (by omega), cml m n g.a h.b (by omega), cml n m h.b g.b (by omega), lfr (Int.mul_ne_zero h.ne g.ne) (lg_mul h.b g.b) (by omega) q⟩
theorem ltimes {n m : Nat} {x y : Fq} {cs : Cs} {Q : Rv → Cs → Prop} (h : FrB n x) (g : FrB m y) (hn : n + m ≤ 5000) (q : Q (.dat (fr (timesF x y))) cs) :
    CMl x.1 y.1 ∧ CMl x.2 y.2 ∧ Em m__law_fraction [.dat (.int (x.1 * y.1)), .dat (.int (x.2 * y.2))] cs Q :=
  ⟨cml n m h.a g.a (by omega), cml n m h.b g.b (by omega), lfr (Int.mul_ne_zero h.ne g.ne) (lg_mul h.b g.b) (by omega) q⟩
theorem dIx_f0 {x : Fq} : dIx (fr x) (.int 0) = some (.dat (.int x.1)) := rfl
theorem dIx_f1 {x : Fq} : dIx (fr x) (.int 1) = some (.dat (.int x.2)) := rfl
/-- the drawn fractions -/
theorem fracs_ec {k n i j : Nat} {b : Int} {ρ : Rho} {cs : Cs} {c : List D} {Q : List D → Cs → Prop} (hc : cs[k]? = some (some c)) (hg : Gs b c) (hk : ρ[0]? = some (some (.own k))) (hj : j < ρ.length) (hi : i < ρ.length) (h0 : 0 < j) (h0' : 0 < i) (hb : b ≤ 10 ^ 16) (hn : n ≤ 100)
    (q : ∀ (xs : List Fq) (c' : List D), xs.length = n → (∀ x ∈ xs, FrB 34 x) → Gs (b + 600 * n) c' → Q (xs.map fr) (cs.set k (some c'))) :
    Ec (gNm i) mYes (mCallF 1 m__law_drawn_pair (aCons (xVar 0) aNil)) (rngD 0 n) (wipeR ρ [i]) cs [] fun l cs2 => DatOf (.fr l) fun d => wpd (itemsOf d) fun ds => Ec (gNm j) mYes (mCallF 2 m__law_fraction (aCons (mB dIx (xVar j) (xC (.int 0))) (aCons (mB dIx (xVar j) (xC (.int 1))) aNil))) ds (wipeR ρ [j]) cs2 [] Q := by
  have wl : ∀ t : Nat, (wipeR ρ [t]).length = ρ.length := fun t => by simp [wipeR]
  have w0 : ∀ (t : Nat) (r : Option Rv), 0 < t → ((wipeR ρ [t]).set t r)[0]? = some (some (.own k)) := fun t r ht => by
    rw [List.getElem?_set_ne (by omega)]
    show ((wipeR ρ []).set t none)[0]? = _
    rw [List.getElem?_set_ne (by omega)]
    exact hk
  refine draws (w := 600) (P := Pr) hc hg (by omega) (by omega) (fun x b' cs' c' Q' hb' hc' hg' h' => ?_) fun ds c1 l1 l2 g1 => ?_
  · simp only [ev_mCallF, ea_cons, ea_nil, ev_xVar, w0 _ _ h0', Option.join_some, wpd_some, deg_own]
    refine ⟨rfl, ?_⟩
    exact pair_em hc' hg' (by omega) fun d c2 hd g2 => h' d c2 hd g2
  · rw [datOf_fr, itemsOf_list, wpd_some]
    obtain ⟨xs, e1, e2, e3⟩ := pairs_fr l2
    refine ec_pure (fun _ => true) nfD (fun d hd cs' => ?_) (le_size (by simp; omega)) ?_
    · obtain ⟨a, e, rfl, he, ha, he2⟩ := l2 d hd
      have vj : ∀ r : Rv, ((wipeR ρ [j]).set j (some r))[j]? = some (some r) := fun r => List.getElem?_set_self (by rw [wl]; exact hj)
      simp [vj, dIx_t0, dIx_t1]
      exact lfr he he2 (by decide) ⟨rfl, rfl⟩
    · rw [List.nil_append, List.filter_eq_self.mpr (fun _ _ => rfl), e1]
      exact q xs c1 (by omega) e2 (g1.mono (by omega))
/-- the law's two totals -/
theorem tot_loop {p s n0 : Nat} {pre : Rho} {cs : Cs} {xs : List Fq} {QS : Out → Prop} {B : MS} (hx : ∀ x ∈ xs, FrB 34 x) (hl : xs.length ≤ 60)
    (hb : ∀ (t u y : Fq) (ρ : Rho), FrB 2200 t → FrB 2200 u → FrB 34 y → Es B n0 (((pre.set p (some (.dat (fr t)))).set s (some (.dat (fr u)))).set 2 (some (.dat (fr y)))) cs fun o => o = .nx (((pre.set p (some (.dat (fr (plusF t y))))).set s (some (.dat (fr (timesF u y))))).set 2 (some (.dat (fr y)))) cs)
    (hps : p ≠ s) (hp2 : p ≠ 2) (hs2 : s ≠ 2) (h2 : 2 < pre.length) (q : ∀ a, QS (.nx (((pre.set p (some (.dat (fr (xs.foldl plusF (0, 1)))))).set s (some (.dat (fr (xs.foldl timesF (1, 1)))))).set 2 a) cs)) :
    El (gNm 2) B n0 (xs.map fr) ((pre.set p (some (.dat (fr (0, 1))))).set s (some (.dat (fr (1, 1))))) cs QS := by
  refine el_inv (k := 0) (fun i ρ cs' => cs' = cs ∧ ∃ a, ρ = ((pre.set p (some (.dat (fr ((xs.take i).foldl plusF (0, 1)))))).set s (some (.dat (fr ((xs.take i).foldl timesF (1, 1)))))).set 2 a) ⟨rfl, pre[2], ?_⟩ ?_ ?_
  · rw [List.set_comm _ _ hs2, List.set_comm _ _ hp2, List.set_getElem_self]
    rfl
  · rintro i d ρ cs' hd ⟨rfl, a, rfl⟩
    rw [List.getElem?_map] at hd
    obtain ⟨x, hx', rfl⟩ := Option.map_eq_some_iff.mp hd
    have hi : i < xs.length := (List.getElem?_eq_some_iff.mp hx').1
    have b1 := (fold_ok plusF_ok zero_ok hx i (by omega)).mono (show 1 + i * (34 + 1) ≤ 2200 by omega)
    have b2 := (fold_ok timesF_ok one_ok hx i (by omega)).mono (show 1 + i * (34 + 1) ≤ 2200 by omega)
    rw [Nat.zero_add, eg_gNm, List.set_set]
    refine wpd_mono (hb _ _ x [] b1 b2 (hx x (List.mem_of_getElem? hx'))) fun o ho => ?_
    subst ho
    refine ⟨rfl, some (.dat (fr x)), ?_⟩
    rw [take_fold hx', take_fold hx']
  · rintro ρ cs' ⟨rfl, a, rfl⟩
    rw [List.length_map, Nat.zero_add, List.take_length]
    exact q a
end My
namespace My
open PySem PySem.Spec PyProof.Rows L2 DL
theorem fold_end {f : Fq → Fq → Fq} (hf : ∀ {n m : Nat} {x y : Fq}, FrB n x → FrB m y → FrB (n + m + 1) (f x y)) {z : Fq} (hz : FrB 1 z) {xs : List Fq} (h : ∀ x ∈ xs, FrB 34 x) (hl : xs.length ≤ 60) : FrB 2200 (xs.foldl f z) := by
  have := fold_ok hf hz h xs.length (Nat.le_refl _)
  rw [List.take_length] at this
  exact this.mono (by omega)
theorem ex_frs {xs : List Fq} {n : Nat} (hl : xs.length ≤ 1000) : exOk (n + 3) (.list (xs.map fr)) = true := by
  show (decide ((xs.map fr).length ≤ sizeLine) && (xs.map fr).all (exOk (n + 2))) = true
  rw [decide_eq_true (le_size (by simp; omega)), List.all_eq_true.mpr]
  · rfl
  · intro d hd
    obtain ⟨x, _, rfl⟩ := List.mem_map.mp hd
    exact fr_ex
theorem ex_list {ds : List D} {n : Nat} (hl : ds.length ≤ 1000) (h : ∀ d ∈ ds, exOk n d = true) : exOk (n + 1) (.list ds) = true := by
  show (decide (ds.length ≤ sizeLine) && ds.all (exOk n)) = true
  rw [decide_eq_true (le_size (by omega)), List.all_eq_true.mpr h]
  rfl
theorem cut_last4 {xs ys : List D} (h : ys.length = 4) : DL.cutD (xs ++ ys) none (some (-4)) = xs := by
  unfold DL.cutD HT.sIx
  simp [h]
  rw [List.take_append_of_le_length (by omega)]
  rw [List.take_of_length_le (by omega)]
/-- pairs for is_less -/
theorem less_loop {n0 : Nat} {ρ : Rho} {cs : Cs} {ds : List D} {QS : Out → Prop} (hl : 9 < ρ.length) (h : ∀ d ∈ ds, ∃ x y : Fq, d = .tuple [fr x, fr y] ∧ FrB 34 x ∧ FrB 34 y) (q : ∀ a b, QS (.nx ((ρ.set 3 a).set 9 b) cs)) :
    El (gNm 3) (sSeq (sSet 9 (mB dLt (mB dMul (mB dIx (mB dIx (xVar 3) (xC (.int 0))) (xC (.int 0))) (mB dIx (mB dIx (xVar 3) (xC (.int 1))) (xC (.int 1)))) (mB dMul (mB dIx (mB dIx (xVar 3) (xC (.int 1))) (xC (.int 0))) (mB dIx (mB dIx (xVar 3) (xC (.int 0))) (xC (.int 1))))))
  (sIf (mTNot (mTru (mCallF 2 m__law_exact (aCons (xLst (aCons (mCallF 2 m_is_less (aCons (mB dIx (xVar 3) (xC (.int 0))) (aCons (mB dIx (xVar 3) (xC (.int 1))) aNil))) (aCons (mCallK 0 2 2 [1, 0] m_is_less aNil (aCons (mB dIx (xVar 3) (xC (.int 1))) (aCons (mB dIx (xVar 3) (xC (.int 0))) aNil))) aNil))) (aCons (xLst (aCons (xVar 9) (aCons (xVar 9) aNil))) aNil))))) (sRet (xC (.bool false))) sNil)) n0 ds ρ cs QS := by
  refine el_inv (k := 0) (fun i ρ' cs' => cs' = cs ∧ ∃ a b, ρ' = (ρ.set 3 a).set 9 b) ⟨rfl, ρ[3], ρ[9], by rw [List.set_getElem_self, List.set_getElem_self]⟩ ?_ ?_
  · rintro i d ρ' cs' hd ⟨rfl, a, b, rfl⟩
    obtain ⟨x, y, rfl, hx, hy⟩ := h d (List.mem_of_getElem? hd)
    have l3 : 3 < ρ.length := by omega
    have c1 : CMl x.1 y.2 := cml 34 34 hx.a hy.b
    have c2 : CMl y.1 x.2 := cml 34 34 hy.a hx.b
    simp [hl, l3, dIx_t0, dIx_t1, dIx_f0, dIx_f1, dMul_int c1, dMul_int c2, dLt_int]
    refine em_of (is_less_eq hx hy (by decide)) ?_
    simp [pick10]
    refine em_of (is_less_eq hx hy (by decide)) ?_
    simp [two_fit]
    refine em_of (exact6 (ex_list (by simp) (by simp [exOk]))) ?_
    simp
    exact ⟨_, _, by rw [List.set_comm _ _ (show (9 : Nat) ≠ 3 by decide), List.set_set, List.set_set]⟩
  · rintro ρ' cs' ⟨rfl, a, b, rfl⟩
    exact q a b
theorem sums_em {k : Nat} {b : Int} {cs : Cs} {c : List D} {Q : Rv → Cs → Prop} (hc : cs[k]? = some (some c)) (hg : Gs b c) (hb : b ≤ 10 ^ 15) (h : ∀ (c' : List D), Gs (b + 10000) c' → Q (db true) (cs.set k (some c'))) : Em m__law_sums_right [.own k] cs Q := by
  unfold m__law_sums_right
  rw [em_fnM]
  unfold b__law_sums_right
  have hk := (List.getElem?_eq_some_iff.mp hc).1
  rw [es_sSeq, es_sSet, ev_xComp, ei_iSeq, ev_xComp, ei_rg1]
  simp only [List.map_cons, List.map_nil, List.length_cons, List.length_nil, Nat.zero_add, Nat.reduceSub, Nat.reduceAdd, List.replicate_succ, List.replicate_zero, List.cons_append, List.nil_append, ea_cons, ea_nil, ev_mCallF, ev_xVar, ev_xC, List.getElem?_cons_zero, Option.join_some, wpd_some, deg_own, deg_dat, true_and]
  refine random_em hc hg (by omega) (by decide) (Int.lt_trans (show (6 : Int) < 10 by decide) (by decide)) fun r c1 r0 r1 g1 => ?_
  simp only [deg_dat, intsOf_cons, intsOf_nil, Option.map_some, wpd_some]
  refine ⟨by constructor <;> omega, ?_⟩
  refine fracs_ec (n := r.toNat) (i := 10) (j := 3) (ρ := [some (.own k), none, none, none, none, none, none, none, none, none, none]) (get_set hc) g1 rfl (by simp) (by simp) (by decide) (by decide) (by omega) (by omega) fun xs c2 hl hx g2 => ?_
  have ro := rok_frs hx (by omega)
  have t1 := fold_end plusF_ok zero_ok hx (by omega)
  have t2 := fold_end timesF_ok one_ok hx (by omega)
  simp [repr_ok ro, two_fit]
  refine tot_loop (p := 5) (s := 6) (pre := [some (.own k), some (.dat (.list (xs.map fr))), none, none, some (.dat (.str (PyData.shown (.list (xs.map fr))))), none, none, none, none, none, none]) hx (by omega) (fun t u y _ ht hu hy => ?_) (by decide) (by decide) (by decide) (by simp) fun a => ?_
  · have c1 : CMl t.1 y.2 := cml 2200 34 ht.a hy.b
    have c2 : CMl y.1 t.2 := cml 34 2200 hy.a ht.b
    have c3 : CMl t.2 y.2 := cml 2200 34 ht.b hy.b
    have c4 : CMl u.1 y.1 := cml 2200 34 hu.a hy.a
    have c5 : CMl u.2 y.2 := cml 2200 34 hu.b hy.b
    simp [dIx_f0, dIx_f1, dMul_int c1, dMul_int c2, dMul_int c3, dAdd_int]
    refine lfr (Int.mul_ne_zero ht.ne hy.ne) (lg_mul ht.b hy.b) (by decide) ?_
    simp [dMul_int c4, dMul_int c5]
    refine lfr (Int.mul_ne_zero hu.ne hy.ne) (lg_mul hu.b hy.b) (by decide) ?_
    simp
    exact ⟨rfl, rfl⟩
  · simp
    have se : ∀ cs : Cs, m_sum_of [.dat (.list (xs.map fr))] cs = _ := fun cs => sum_eq hx (fun i hi => by omega) (by decide)
    have pe : ∀ cs : Cs, m_product_of [.dat (.list (xs.map fr))] cs = _ := fun cs => product_eq hx (by omega) (by decide)
    refine em_of (se _) ?_
    simp [pick0]
    refine em_of (se _) ?_
    refine em_of (pe _) ?_
    simp
    refine em_of (pe _) ?_
    simp [le_size]
    refine em_of (exact6 (ex_list (by simp) (by simp [fr_ex]))) ?_
    have len4 : (xs.map fr).length + 4 ≤ sizeLine := le_size (by simp; omega)
    have len4' : xs.length + 4 ≤ sizeLine := le_size (by omega)
    simp [dSub_int, le_size, dAdd_list, len4']
    have mem : ∀ d ∈ xs.map fr ++ [.tuple [.int 1, .int 3], .tuple [.int 1, .int 2], .tuple [.int (-1), .int 2], .tuple [.int 0, .int 1]], ∃ x : Fq, d = fr x ∧ FrB 34 x := by
      intro d hd
      rcases List.mem_append.mp hd with h1 | h1
      · obtain ⟨x, h2, rfl⟩ := List.mem_map.mp h1
        exact ⟨x, rfl, hx x h2⟩
      · simp at h1
        rcases h1 with rfl | rfl | rfl | rfl
        · exact ⟨(1, 3), rfl, by decide, by decide, by decide, by decide⟩
        · exact ⟨(1, 2), rfl, by decide, by decide, by decide, by decide⟩
        · exact ⟨(-1, 2), rfl, by decide, by decide, by decide, by decide⟩
        · exact ⟨(0, 1), rfl, by decide, by decide, by decide, by decide⟩
    refine pick_em (get_set hc) g2 (by omega) (by simp) (by simp; omega) fun d3 c3 hd3 g3 => ?_
    simp
    refine pick_em (get_set hc) g3 (by omega) (by simp) (by simp; omega) fun d4 c4 hd4 g4 => ?_
    obtain ⟨x3, rfl, f3⟩ := mem d3 hd3
    obtain ⟨x4, rfl, f4⟩ := mem d4 hd4
    simp [le_size]
    refine less_loop (by simp) ?_ fun a b => ?_
    · intro d hd
      simp at hd
      rcases hd with rfl | rfl | rfl
      · exact ⟨_, _, rfl, f3, f4⟩
      · exact ⟨_, _, rfl, f4, f3⟩
      · exact ⟨_, _, rfl, f3, f3⟩
    · simp [dSub_int, dSl]
      rw [cut_last4 (by simp)]
      simp [repr_ok ro, dEq_str]
      rw [List.take_of_length_le (by simp)]
      exact h _ (g4.mono (by omega))
end My
namespace My
open PySem PySem.Spec PyProof.Rows L2 DL
theorem long_em {k : Nat} {b : Int} {cs : Cs} {c : List D} {Q : Rv → Cs → Prop} (hc : cs[k]? = some (some c)) (hg : Gs b c) (hb : b ≤ 10 ^ 15) (h : ∀ (c' : List D), Gs (b + 36000) c' → Q (db true) (cs.set k (some c'))) : Em m__law_long_right [.own k] cs Q := by
  unfold m__law_long_right
  rw [em_fnM]
  unfold b__law_long_right
  have hk := (List.getElem?_eq_some_iff.mp hc).1
  rw [es_sSeq, es_sSet, ev_xComp, ei_iSeq, ev_xComp, ei_rg1]
  simp only [List.map_cons, List.map_nil, List.length_cons, List.length_nil, Nat.zero_add, Nat.reduceSub, Nat.reduceAdd, List.replicate_succ, List.replicate_zero, List.cons_append, List.nil_append, ea_cons, ea_nil, ev_mCallF, ev_xVar, ev_xC, List.getElem?_cons_zero, Option.join_some, wpd_some, deg_own, deg_dat, true_and, intsOf_cons, intsOf_nil, Option.map_some]
  refine ⟨by constructor <;> decide, ?_⟩
  refine fracs_ec (n := 60) (i := 9) (j := 8) (ρ := [some (.own k), none, none, none, none, none, none, none, none, none]) hc hg rfl (by simp) (by simp) (by decide) (by decide) (by omega) (by decide) fun xs c2' hl hx g2 => ?_
  have ro := rok_frs hx (by omega)
  have t1 := fold_end plusF_ok zero_ok hx (by omega)
  have t2 := fold_end timesF_ok one_ok hx (by omega)
  simp [two_fit]
  refine tot_loop (p := 4) (s := 5) (pre := [some (.own k), some (.dat (.list (xs.map fr))), none, none, none, none, none, none, none, none]) hx (by omega) (fun t u y _ ht hu hy => ?_) (by decide) (by decide) (by decide) (by simp) fun a => ?_
  · have c1 : CMl t.1 y.2 := cml 2200 34 ht.a hy.b
    have c2 : CMl y.1 t.2 := cml 34 2200 hy.a ht.b
    have c3 : CMl t.2 y.2 := cml 2200 34 ht.b hy.b
    have c4 : CMl u.1 y.1 := cml 2200 34 hu.a hy.a
    have c5 : CMl u.2 y.2 := cml 2200 34 hu.b hy.b
    simp [dIx_f0, dIx_f1, dMul_int c1, dMul_int c2, dMul_int c3, dAdd_int]
    refine lfr (Int.mul_ne_zero ht.ne hy.ne) (lg_mul ht.b hy.b) (by decide) ?_
    simp [dMul_int c4, dMul_int c5]
    refine lfr (Int.mul_ne_zero hu.ne hy.ne) (lg_mul hu.b hy.b) (by decide) ?_
    simp
    exact ⟨rfl, rfl⟩
  · have se : ∀ cs : Cs, m_sum_of [.dat (.list (xs.map fr))] cs = _ := fun cs => sum_eq hx (fun i hi => by omega) (by decide)
    have pe : ∀ cs : Cs, m_product_of [.dat (.list (xs.map fr))] cs = _ := fun cs => product_eq hx (by omega) (by decide)
    generalize xs.foldl plusF (0, 1) = T at t1 se ⊢
    generalize xs.foldl timesF (1, 1) = U at t2 pe ⊢
    simp [repr_ok ro]
    refine em_of (se _) ?_
    simp [dNe_str]
    refine em_of (pe _) ?_
    refine em_of is_fraction_eq ?_
    simp
    refine em_of is_fraction_eq ?_
    simp [t1.frac, t2.frac, le_size]
    refine em_of (exact6 (ex_list (by simp) (by simp [fr_ex, exOk]))) ?_
    have c1 : CMl T.1 U.2 := cml 2200 2200 t1.a t2.b
    have c2 : CMl U.1 T.2 := cml 2200 2200 t2.a t1.b
    have c3 : CMl T.2 U.2 := cml 2200 2200 t1.b t2.b
    simp [dIx_f0, dIx_f1, dMul_int c1, dMul_int c2, dMul_int c3, dAdd_int, dNe_str]
    refine lfr (Int.mul_ne_zero t1.ne t2.ne) (lg_mul t1.b t2.b) (by decide) ?_
    simp
    refine em_of (is_less_eq t1 t2 (by decide)) ?_
    have sT : plusF (0, 1) T = T := by
      unfold plusF nf2
      have := nf_of t1.pos t1.low
      simp only [Int.zero_mul, Int.zero_add, Int.mul_one, Int.one_mul]
      exact Prod.ext this.1 this.2
    have s2 : m_sum_of [.dat (.list [fr T, fr U])] (cs.set k (some c2')) = some (.dat (fr (plusF T U)), cs.set k (some c2')) := by
      have e := sum_eq (m := 2200) (xs := [T, U]) (cs := cs.set k (some c2')) (by
        intro x hx
        rcases List.mem_cons.mp hx with rfl | hx
        · exact t1
        · rw [List.mem_singleton.mp hx]; exact t2) (fun i hi => by
        have : i < 2 := hi
        omega) (by decide)
      rw [show ([T, U] : List Fq).foldl plusF (0, 1) = plusF (plusF (0, 1) T) U from rfl, sT] at e
      exact e
    refine em_of s2 ?_
    simp [le_size, dLt_int]
    refine em_of (exact6 (d := .list [.bool (decide (T.1 * U.2 < U.1 * T.2)), fr (plusF T U)]) (ex_list (by simp) (by simp [fr_ex, exOk]))) ?_
    simp
    rw [List.take_of_length_le (by simp)]
    exact h _ (g2.mono (by omega))
theorem law_eq {ns : List Int} (hl : ns.length ≤ 63) (hb : ∀ z ∈ ns, Builtin.Int.intBits z ≤ 1048576) : m_law [.dat (.list (ns.map .int))] [] = some (.dat (.bool true), []) := by
  refine em_eq ?_
  unfold m_law
  rw [em_fnM]
  unfold b_law
  simp
  refine ⟨by constructor <;> decide, ?_⟩
  refine el_inv (k := 0) (fun i ρ cs => ∃ a b c, ρ = [some (.dat (.list (ns.map .int))), a, b, c]) ⟨none, none, none, rfl⟩ ?_ ?_
  · rintro i d ρ cs hd ⟨a, b, c, rfl⟩
    obtain ⟨j, hj, rfl⟩ := rng_mem (List.mem_of_getElem? hd)
    have hj' : j < 3 := hj
    simp
    refine generator_em (by omega) (by omega) hb (by omega) fun g gs => ?_
    simp
    refine ⟨by constructor <;> decide, ?_⟩
    refine el_inv (k := 0) (fun i ρ cs' => ∃ x c', ρ = [some (.dat (.list (ns.map .int))), some (.dat (.int (j : Int))), some (.own cs.length), x] ∧ cs'.length = cs.length + 1 ∧ cs'[cs.length]? = some (some c') ∧ Gs (3000 + 20000 * i) c' ∧ i ≤ 5) ⟨c, g, rfl, by simp, by simp, gs.mono (by omega), by decide⟩ ?_ ?_
    · rintro i d ρ cs' hd ⟨x, c', rfl, l1, l2, l3, l4⟩
      have hi : i < 5 := by
        have := (List.getElem?_eq_some_iff.mp hd).1
        rw [rng_len] at this
        exact this
      rw [Nat.zero_add] at l3 ⊢
      simp
      refine made_em l2 l3 (by omega) fun c1 g1 => ?_
      simp
      refine sums_em (get_set l2) g1 (by omega) fun c2 g2 => ?_
      simp
      exact ⟨l1, c2, get_set l2, g2.mono (by omega), by omega⟩
    · rintro ρ cs' ⟨x, c', rfl, l1, l2, l3, l4⟩
      rw [rng_len, Nat.zero_add] at l3
      simp
      refine long_em l2 l3 (by omega) fun c1 g1 => ?_
      simp
  · rintro ρ cs ⟨a, b, c, rfl⟩
    simp
end My
namespace My
open PySem PySem.Spec PyProof.Rows L2 DL
def top (i : Nat) : Stmt := PySem.Challenge.pw_eversame_k03_whole_fractions_made_and_ju.main.body.getD i (.Pass ⟨0, 0, 0, 0⟩)
abbrev s_is_whole : Stmt := top 6
abbrev s_check_list : Stmt := top 7
abbrev s_common_of : Stmt := top 9
abbrev s_is_fraction : Stmt := top 10
abbrev s_check_fraction : Stmt := top 11
abbrev s_lowest_of : Stmt := top 12
abbrev s_fraction_of : Stmt := top 13
abbrev s_plus_of : Stmt := top 14
abbrev s_times_of : Stmt := top 15
abbrev s_less_than : Stmt := top 16
abbrev s_check_fractions : Stmt := top 17
abbrev s_sum_of : Stmt := top 18
abbrev s_product_of : Stmt := top 19
abbrev s_is_less : Stmt := top 20
abbrev s__law_hash : Stmt := top 22
abbrev s__law_cell : Stmt := top 23
abbrev s__law_generator : Stmt := top 24
abbrev s__law_random : Stmt := top 25
abbrev s__law_pick : Stmt := top 26
abbrev s__law_copied : Stmt := top 27
abbrev s__law_exact : Stmt := top 28
abbrev s__law_low : Stmt := top 29
abbrev s__law_any : Stmt := top 30
abbrev s__law_big : Stmt := top 31
abbrev s__law_drawn_pair : Stmt := top 32
abbrev s__law_fraction : Stmt := top 33
abbrev s__law_is_fraction : Stmt := top 34
abbrev s__law_made_right : Stmt := top 35
abbrev s__law_sums_right : Stmt := top 36
abbrev s__law_long_right : Stmt := top 37
abbrev s_law : Stmt := top 38
structure Fre (mg : Str → Option Value) : Prop where
  f_abs : mg "abs" = none
  f_bool : mg "bool" = none
  f_dict : mg "dict" = none
  f_int : mg "int" = none
  f_isinstance : mg "isinstance" = none
  f_len : mg "len" = none
  f_list : mg "list" = none
  f_max : mg "max" = none
  f_range : mg "range" = none
  f_repr : mg "repr" = none
  f_str : mg "str" = none
  f_sum : mg "sum" = none
  f_tuple : mg "tuple" = none
  f_zip : mg "zip" = none

abbrev Fu (K : PySem.W.Frag) (mg : Str → Option Value) (x : Str) (st : Stmt) : Prop := ∃ f fd, FunD K x x (defArgs st) (defBody st) (defScope st) [] [] f fd ∧ mg x = some (.ref f)
section
variable {P : Program} {w : World} {K : PySem.W.Frag} {mg : Str → Option Value} {base : Heap}
theorem sc_is_whole : FnScope ["value"] ["value"] (defScope s_is_whole) := ⟨rfl, rfl, rfl, by decide +kernel, rfl, by decide +kernel, by decide +kernel⟩
theorem ok_is_whole (fr : Fre mg) (F : Fu K mg "is_whole" s_is_whole)  : Cal P w K mg base 1 "is_whole" s_is_whole ["value"] m_is_whole :=
  cal_of (k := 0) (N := ["value"]) (b := b_is_whole) F sc_is_whole (fun _ _ _ _ _ _ us hl => match us, hl with | [_], _ => rfl) fun f cdv A outer s H hr rm =>
  (xs_one (xs_ret (xe_and (xe_isi rfl fr.f_isinstance rfl fr.f_int (by decide +kernel) (w_var 0)) (xe_and1 (xe_not (xe_isi rfl fr.f_isinstance rfl fr.f_bool (by decide +kernel) (w_var 0)))))))
theorem sc_check_list : FnScope ["value"] ["value"] (defScope s_check_list) := ⟨rfl, rfl, rfl, by decide +kernel, rfl, by decide +kernel, by decide +kernel⟩
theorem ok_check_list (fr : Fre mg) (F : Fu K mg "check_list" s_check_list)  : Cal P w K mg base 1 "check_list" s_check_list ["value"] m_check_list :=
  cal_of (k := 0) (N := ["value"]) (b := b_check_list) F sc_check_list (fun _ _ _ _ _ _ us hl => match us, hl with | [_], _ => rfl) fun f cdv A outer s H hr rm =>
  (xs_one (xs_if (xt_not (xt_of (xe_isi rfl fr.f_isinstance rfl fr.f_list (by decide +kernel) (w_var 0)))) (xs_one xs_never) xs_nil))
theorem sc_common_of : FnScope ["one", "other"] ["one", "other"] (defScope s_common_of) := ⟨rfl, rfl, rfl, by decide +kernel, rfl, by decide +kernel, by decide +kernel⟩
theorem ok_common_of (fr : Fre mg) (F : Fu K mg "common_of" s_common_of)  : Cal P w K mg base 1 "common_of" s_common_of ["one", "other"] m_common_of :=
  cal_of (k := 0) (N := ["one", "other"]) (b := b_common_of) F sc_common_of (fun _ _ _ _ _ _ us hl => match us, hl with | [_, _], _ => rfl) fun f cdv A outer s H hr rm =>
  (xs_cons (xs_parO (i := 0) (j := 1) rfl sc_common_of.nd (xao_dat (xe_abs rfl fr.f_abs (xa_cons (w_var 0) xa_nil)) (xao_dat (xe_abs rfl fr.f_abs (xa_cons (w_var 1) xa_nil)) xao_nil)))
  (xs_cons (w_while (xt_gt rm (w_var 1) xe_int) (xs_one (xs_parO (i := 0) (j := 1) rfl sc_common_of.nd (xao_dat (w_var 1) (xao_dat (xe_mod (w_var 0) (w_var 1)) xao_nil)))))
  (xs_one (xs_ret (w_var 0)))))
theorem sc_is_fraction : FnScope ["value"] ["value"] (defScope s_is_fraction) := ⟨rfl, rfl, rfl, by decide +kernel, rfl, by decide +kernel, by decide +kernel⟩
theorem ok_is_fraction (fr : Fre mg) (F : Fu K mg "is_fraction" s_is_fraction) (C_is_whole : Cal P w K mg base 1 "is_whole" s_is_whole ["value"] m_is_whole) (C_common_of : Cal P w K mg base 1 "common_of" s_common_of ["one", "other"] m_common_of) : Cal P w K mg base 2 "is_fraction" s_is_fraction ["value"] m_is_fraction :=
  cal_of (k := 1) (N := ["value"]) (b := b_is_fraction) F sc_is_fraction (fun _ _ _ _ _ _ us hl => match us, hl with | [_], _ => rfl) fun f cdv A outer s H hr rm =>
  (xs_cons (xs_if (xt_w (xw_or (xt_not (xt_of (xe_isi rfl fr.f_isinstance rfl fr.f_tuple (by decide +kernel) (w_var 0)))) (xw_or (xt_ne rm (xe_len rfl fr.f_len (xa_cons (w_var 0) xa_nil)) xe_int) (xw_or (xt_not (xt_of (w_call C_is_whole hr rm (xa_cons (xe_item (w_var 0) xe_int) xa_nil)))) (xw_or1 (xt_not (xt_of (w_call C_is_whole hr rm (xa_cons (xe_item (w_var 0) xe_int) xa_nil))))))))) (xs_one (xs_ret xe_bl)) xs_nil)
  (xs_one (xs_ret (xe_and (xe_ge rm (xe_item (w_var 0) xe_int) xe_int) (xe_and1 (xe_eq rm (w_call C_common_of hr rm (xa_cons (xe_item (w_var 0) xe_int) (xa_cons (xe_item (w_var 0) xe_int) xa_nil))) xe_int))))))
theorem sc_check_fraction : FnScope ["value"] ["value"] (defScope s_check_fraction) := ⟨rfl, rfl, rfl, by decide +kernel, rfl, by decide +kernel, by decide +kernel⟩
theorem ok_check_fraction (fr : Fre mg) (F : Fu K mg "check_fraction" s_check_fraction) (C_is_fraction : Cal P w K mg base 2 "is_fraction" s_is_fraction ["value"] m_is_fraction) : Cal P w K mg base 3 "check_fraction" s_check_fraction ["value"] m_check_fraction :=
  cal_of (k := 2) (N := ["value"]) (b := b_check_fraction) F sc_check_fraction (fun _ _ _ _ _ _ us hl => match us, hl with | [_], _ => rfl) fun f cdv A outer s H hr rm =>
  (xs_one (xs_if (xt_not (xt_of (w_call C_is_fraction hr rm (xa_cons (w_var 0) xa_nil)))) (xs_one xs_never) xs_nil))
theorem sc_lowest_of : FnScope ["above", "below", "part"] ["above", "below"] (defScope s_lowest_of) := ⟨rfl, rfl, rfl, by decide +kernel, rfl, by decide +kernel, by decide +kernel⟩
theorem ok_lowest_of (fr : Fre mg) (F : Fu K mg "lowest_of" s_lowest_of) (C_common_of : Cal P w K mg base 1 "common_of" s_common_of ["one", "other"] m_common_of) : Cal P w K mg base 2 "lowest_of" s_lowest_of ["above", "below"] m_lowest_of :=
  cal_of (k := 1) (N := ["above", "below", "part"]) (b := b_lowest_of) F sc_lowest_of (fun _ _ _ _ _ _ us hl => match us, hl with | [_, _], _ => rfl) fun f cdv A outer s H hr rm =>
  (xs_cons (w_set 2 sc_lowest_of.nd (w_call C_common_of hr rm (xa_cons (w_var 0) (xa_cons (w_var 1) xa_nil))))
  (xs_cons (xs_if (xt_lt rm (w_var 1) xe_int) (xs_one (w_set 2 sc_lowest_of.nd (xe_sub xe_int (w_var 2)))) xs_nil)
  (xs_one (xs_ret (xe_tup (xa_cons (xe_div (w_var 0) (w_var 2)) (xa_cons (xe_div (w_var 1) (w_var 2)) xa_nil)))))))
theorem sc_fraction_of : FnScope ["above", "below"] ["above", "below"] (defScope s_fraction_of) := ⟨rfl, rfl, rfl, by decide +kernel, rfl, by decide +kernel, by decide +kernel⟩
theorem ok_fraction_of (fr : Fre mg) (F : Fu K mg "fraction_of" s_fraction_of) (C_is_whole : Cal P w K mg base 1 "is_whole" s_is_whole ["value"] m_is_whole) (C_lowest_of : Cal P w K mg base 2 "lowest_of" s_lowest_of ["above", "below"] m_lowest_of) : Cal P w K mg base 3 "fraction_of" s_fraction_of ["above", "below"] m_fraction_of :=
  cal_of (k := 2) (N := ["above", "below"]) (b := b_fraction_of) F sc_fraction_of (fun _ _ _ _ _ _ us hl => match us, hl with | [_, _], _ => rfl) fun f cdv A outer s H hr rm =>
  (xs_cons (xs_if (xt_not (xt_of (w_call C_is_whole hr rm (xa_cons (w_var 0) xa_nil)))) (xs_one xs_never) xs_nil)
  (xs_cons (xs_if (xt_w (xw_or (xt_not (xt_of (w_call C_is_whole hr rm (xa_cons (w_var 1) xa_nil)))) (xw_or1 (xt_eq rm (w_var 1) xe_int)))) (xs_one xs_never) xs_nil)
  (xs_one (xs_ret (w_call C_lowest_of hr rm (xa_cons (w_var 0) (xa_cons (w_var 1) xa_nil)))))))
theorem sc_plus_of : FnScope ["one", "other"] ["one", "other"] (defScope s_plus_of) := ⟨rfl, rfl, rfl, by decide +kernel, rfl, by decide +kernel, by decide +kernel⟩
theorem ok_plus_of (fr : Fre mg) (F : Fu K mg "plus_of" s_plus_of) (C_lowest_of : Cal P w K mg base 2 "lowest_of" s_lowest_of ["above", "below"] m_lowest_of) : Cal P w K mg base 3 "plus_of" s_plus_of ["one", "other"] m_plus_of :=
  cal_of (k := 2) (N := ["one", "other"]) (b := b_plus_of) F sc_plus_of (fun _ _ _ _ _ _ us hl => match us, hl with | [_, _], _ => rfl) fun f cdv A outer s H hr rm =>
  (xs_one (xs_ret (w_call C_lowest_of hr rm (xa_cons (xe_add (xe_mul (xe_item (w_var 0) xe_int) (xe_item (w_var 1) xe_int)) (xe_mul (xe_item (w_var 1) xe_int) (xe_item (w_var 0) xe_int))) (xa_cons (xe_mul (xe_item (w_var 0) xe_int) (xe_item (w_var 1) xe_int)) xa_nil)))))
theorem sc_times_of : FnScope ["one", "other"] ["one", "other"] (defScope s_times_of) := ⟨rfl, rfl, rfl, by decide +kernel, rfl, by decide +kernel, by decide +kernel⟩
theorem ok_times_of (fr : Fre mg) (F : Fu K mg "times_of" s_times_of) (C_lowest_of : Cal P w K mg base 2 "lowest_of" s_lowest_of ["above", "below"] m_lowest_of) : Cal P w K mg base 3 "times_of" s_times_of ["one", "other"] m_times_of :=
  cal_of (k := 2) (N := ["one", "other"]) (b := b_times_of) F sc_times_of (fun _ _ _ _ _ _ us hl => match us, hl with | [_, _], _ => rfl) fun f cdv A outer s H hr rm =>
  (xs_one (xs_ret (w_call C_lowest_of hr rm (xa_cons (xe_mul (xe_item (w_var 0) xe_int) (xe_item (w_var 1) xe_int)) (xa_cons (xe_mul (xe_item (w_var 0) xe_int) (xe_item (w_var 1) xe_int)) xa_nil)))))
theorem sc_less_than : FnScope ["one", "other"] ["one", "other"] (defScope s_less_than) := ⟨rfl, rfl, rfl, by decide +kernel, rfl, by decide +kernel, by decide +kernel⟩
theorem ok_less_than (fr : Fre mg) (F : Fu K mg "less_than" s_less_than)  : Cal P w K mg base 1 "less_than" s_less_than ["one", "other"] m_less_than :=
  cal_of (k := 0) (N := ["one", "other"]) (b := b_less_than) F sc_less_than (fun _ _ _ _ _ _ us hl => match us, hl with | [_, _], _ => rfl) fun f cdv A outer s H hr rm =>
  (xs_one (xs_ret (xe_lt rm (xe_mul (xe_item (w_var 0) xe_int) (xe_item (w_var 1) xe_int)) (xe_mul (xe_item (w_var 1) xe_int) (xe_item (w_var 0) xe_int)))))
theorem sc_check_fractions : FnScope ["fractions", "item"] ["fractions"] (defScope s_check_fractions) := ⟨rfl, rfl, rfl, by decide +kernel, rfl, by decide +kernel, by decide +kernel⟩
theorem ok_check_fractions (fr : Fre mg) (F : Fu K mg "check_fractions" s_check_fractions) (C_check_list : Cal P w K mg base 1 "check_list" s_check_list ["value"] m_check_list) (C_check_fraction : Cal P w K mg base 3 "check_fraction" s_check_fraction ["value"] m_check_fraction) : Cal P w K mg base 4 "check_fractions" s_check_fractions ["fractions"] m_check_fractions :=
  cal_of (k := 3) (N := ["fractions", "item"]) (b := b_check_fractions) F sc_check_fractions (fun _ _ _ _ _ _ us hl => match us, hl with | [_], _ => rfl) fun f cdv A outer s H hr rm =>
  (xs_cons (xs_expr (w_call C_check_list hr rm (xa_cons (w_var 0) xa_nil)))
  (xs_one (w_for [1] (xi_seq (w_var 0)) (w_gn 1 sc_check_fractions.nd) (xs_one (xs_expr (w_call C_check_fraction hr rm (xa_cons (w_var 1) xa_nil)))))))
theorem sc_sum_of : FnScope ["fractions", "total", "item"] ["fractions"] (defScope s_sum_of) := ⟨rfl, rfl, rfl, by decide +kernel, rfl, by decide +kernel, by decide +kernel⟩
theorem ok_sum_of (fr : Fre mg) (F : Fu K mg "sum_of" s_sum_of) (C_check_fractions : Cal P w K mg base 4 "check_fractions" s_check_fractions ["fractions"] m_check_fractions) (C_plus_of : Cal P w K mg base 3 "plus_of" s_plus_of ["one", "other"] m_plus_of) : Cal P w K mg base 5 "sum_of" s_sum_of ["fractions"] m_sum_of :=
  cal_of (k := 4) (N := ["fractions", "total", "item"]) (b := b_sum_of) F sc_sum_of (fun _ _ _ _ _ _ us hl => match us, hl with | [_], _ => rfl) fun f cdv A outer s H hr rm =>
  (xs_cons (xs_expr (w_call C_check_fractions hr rm (xa_cons (w_var 0) xa_nil)))
  (xs_cons (w_set 1 sc_sum_of.nd (xe_tup (xa_cons xe_int (xa_cons xe_int xa_nil))))
  (xs_cons (w_for [2] (xi_seq (w_var 0)) (w_gn 2 sc_sum_of.nd) (xs_one (w_set 1 sc_sum_of.nd (w_call C_plus_of hr rm (xa_cons (w_var 1) (xa_cons (w_var 2) xa_nil))))))
  (xs_one (xs_ret (w_var 1))))))
theorem sc_product_of : FnScope ["fractions", "total", "item"] ["fractions"] (defScope s_product_of) := ⟨rfl, rfl, rfl, by decide +kernel, rfl, by decide +kernel, by decide +kernel⟩
theorem ok_product_of (fr : Fre mg) (F : Fu K mg "product_of" s_product_of) (C_check_fractions : Cal P w K mg base 4 "check_fractions" s_check_fractions ["fractions"] m_check_fractions) (C_times_of : Cal P w K mg base 3 "times_of" s_times_of ["one", "other"] m_times_of) : Cal P w K mg base 5 "product_of" s_product_of ["fractions"] m_product_of :=
  cal_of (k := 4) (N := ["fractions", "total", "item"]) (b := b_product_of) F sc_product_of (fun _ _ _ _ _ _ us hl => match us, hl with | [_], _ => rfl) fun f cdv A outer s H hr rm =>
  (xs_cons (xs_expr (w_call C_check_fractions hr rm (xa_cons (w_var 0) xa_nil)))
  (xs_cons (w_set 1 sc_product_of.nd (xe_tup (xa_cons xe_int (xa_cons xe_int xa_nil))))
  (xs_cons (w_for [2] (xi_seq (w_var 0)) (w_gn 2 sc_product_of.nd) (xs_one (w_set 1 sc_product_of.nd (w_call C_times_of hr rm (xa_cons (w_var 1) (xa_cons (w_var 2) xa_nil))))))
  (xs_one (xs_ret (w_var 1))))))
theorem sc_is_less : FnScope ["one", "other"] ["one", "other"] (defScope s_is_less) := ⟨rfl, rfl, rfl, by decide +kernel, rfl, by decide +kernel, by decide +kernel⟩
theorem ok_is_less (fr : Fre mg) (F : Fu K mg "is_less" s_is_less) (C_check_fraction : Cal P w K mg base 3 "check_fraction" s_check_fraction ["value"] m_check_fraction) (C_less_than : Cal P w K mg base 1 "less_than" s_less_than ["one", "other"] m_less_than) : Cal P w K mg base 4 "is_less" s_is_less ["one", "other"] m_is_less :=
  cal_of (k := 3) (N := ["one", "other"]) (b := b_is_less) F sc_is_less (fun _ _ _ _ _ _ us hl => match us, hl with | [_, _], _ => rfl) fun f cdv A outer s H hr rm =>
  (xs_cons (xs_expr (w_call C_check_fraction hr rm (xa_cons (w_var 0) xa_nil)))
  (xs_cons (xs_expr (w_call C_check_fraction hr rm (xa_cons (w_var 1) xa_nil)))
  (xs_one (xs_ret (w_call C_less_than hr rm (xa_cons (w_var 0) (xa_cons (w_var 1) xa_nil)))))))
theorem sc__law_hash : FnScope ["seed", "index", "mixed"] ["seed", "index"] (defScope s__law_hash) := ⟨rfl, rfl, rfl, by decide +kernel, rfl, by decide +kernel, by decide +kernel⟩
theorem ok__law_hash (fr : Fre mg) (F : Fu K mg "_law_hash" s__law_hash)  : Cal P w K mg base 1 "_law_hash" s__law_hash ["seed", "index"] m__law_hash :=
  cal_of (k := 0) (N := ["seed", "index", "mixed"]) (b := b__law_hash) F sc__law_hash (fun _ _ _ _ _ _ us hl => match us, hl with | [_, _], _ => rfl) fun f cdv A outer s H hr rm =>
  (xs_cons (w_set 2 sc__law_hash.nd (xe_mod (xe_int1 rfl fr.f_int (xa_cons (xe_add (xe_add (xe_add (xe_mul (w_var 0) xe_int) (xe_mul (xe_mul xe_int (w_var 1)) (w_var 1))) (xe_mul xe_int (w_var 1))) xe_int) xa_nil)) xe_int))
  (xs_cons (w_set 2 sc__law_hash.nd (xe_mod (xe_int1 rfl fr.f_int (xa_cons (xe_add (xe_add (xe_mul (w_var 2) (w_var 2)) (xe_mul xe_int (w_var 1))) xe_int) xa_nil)) xe_int))
  (xs_one (xs_ret (xe_mod (xe_int1 rfl fr.f_int (xa_cons (xe_mul (w_var 2) xe_int) xa_nil)) xe_int)))))
theorem sc__law_cell : FnScope ["script", "index"] ["script", "index"] (defScope s__law_cell) := ⟨rfl, rfl, rfl, by decide +kernel, rfl, by decide +kernel, by decide +kernel⟩
theorem ok__law_cell (fr : Fre mg) (F : Fu K mg "_law_cell" s__law_cell)  : Cal P w K mg base 1 "_law_cell" s__law_cell ["script", "index"] m__law_cell :=
  cal_of (k := 0) (N := ["script", "index"]) (b := b__law_cell) F sc__law_cell (fun _ _ _ _ _ _ us hl => match us, hl with | [_, _], _ => rfl) fun f cdv A outer s H hr rm =>
  (xs_cons (xs_if (xt_lt rm (w_var 1) (xe_len rfl fr.f_len (xa_cons (w_var 0) xa_nil))) (xs_one (xs_ret (xe_item (w_var 0) (w_var 1)))) xs_nil)
  (xs_one (xs_ret (xe_mod (xe_sum rm rfl fr.f_sum (xa_cons (xe_slice (w_var 0) xo_none (xo_some xe_int)) xa_nil)) xe_int))))
theorem sc__law_generator : FnScope ["script", "index", "seed"] ["script", "index"] (defScope s__law_generator) := ⟨rfl, rfl, rfl, by decide +kernel, rfl, by decide +kernel, by decide +kernel⟩
theorem ok__law_generator (fr : Fre mg) (F : Fu K mg "_law_generator" s__law_generator) (C__law_cell : Cal P w K mg base 1 "_law_cell" s__law_cell ["script", "index"] m__law_cell) : Cal P w K mg base 2 "_law_generator" s__law_generator ["script", "index"] m__law_generator :=
  cal_of (k := 1) (N := ["script", "index", "seed"]) (b := b__law_generator) F sc__law_generator (fun _ _ _ _ _ _ us hl => match us, hl with | [_, _], _ => rfl) fun f cdv A outer s H hr rm =>
  (xs_cons (w_set 2 sc__law_generator.nd (w_call C__law_cell hr rm (xa_cons (w_var 0) (xa_cons (w_var 1) xa_nil))))
  (xs_one (xs_ret (xe_lst (xa_cons (xe_mod (xe_int1 rfl fr.f_int (xa_cons (xe_max2 rm rfl fr.f_max (xa_cons (xe_sub (w_var 2) (xe_pow xe_int xe_int)) (xa_cons xe_int xa_nil))) xa_nil)) (xe_pow (xe_pow xe_int xe_int) xe_int)) (xa_cons (xe_mod (xe_int1 rfl fr.f_int (xa_cons (w_var 2) xa_nil)) xe_int) (xa_cons (xe_mul xe_int (w_var 1)) xa_nil)))))))
theorem sc__law_random : FnScope ["generator", "bound", "drawn", "turn"] ["generator", "bound"] (defScope s__law_random) := ⟨rfl, rfl, rfl, by decide +kernel, rfl, by decide +kernel, by decide +kernel⟩
theorem ok__law_random (fr : Fre mg) (F : Fu K mg "_law_random" s__law_random) (C__law_hash : Cal P w K mg base 1 "_law_hash" s__law_hash ["seed", "index"] m__law_hash) : Cal P w K mg base 2 "_law_random" s__law_random ["generator", "bound"] m__law_random :=
  cal_of (k := 1) (N := ["generator", "bound", "drawn", "turn"]) (b := b__law_random) F sc__law_random (fun _ _ _ _ _ _ us hl => match us, hl with | [_, _], _ => rfl) fun f cdv A outer s H hr rm =>
  (xs_cons (xs_if (xt_gt rm (xe_item (w_var 0) xe_int) xe_int) (xs_cons (w_set 2 sc__law_random.nd (xe_mod (xe_int1 rfl fr.f_int (xa_cons (xe_item (w_var 0) xe_int) xa_nil)) (w_var 1)))
  (xs_cons (w_put 0 xe_int (xe_div (xe_item (w_var 0) xe_int) (w_var 1)))
  (xs_one (xs_ret (w_var 2))))) xs_nil)
  (xs_cons (w_set 2 sc__law_random.nd xe_int)
  (xs_cons (w_for [3] (xi_range1 rfl fr.f_range (xa_cons (xe_add xe_int (xe_div (xe_bits (w_var 1)) xe_int)) xa_nil)) (w_gn 3 sc__law_random.nd) (xs_cons (w_put 0 xe_int (xe_add (xe_item (w_var 0) xe_int) xe_int))
  (xs_one (w_set 2 sc__law_random.nd (xe_add (xe_mul (w_var 2) xe_int) (w_call C__law_hash hr rm (xa_cons (xe_item (w_var 0) xe_int) (xa_cons (xe_item (w_var 0) xe_int) xa_nil))))))))
  (xs_one (xs_ret (xe_mod (xe_int1 rfl fr.f_int (xa_cons (w_var 2) xa_nil)) (w_var 1)))))))
theorem sc__law_pick : FnScope ["generator", "things"] ["generator", "things"] (defScope s__law_pick) := ⟨rfl, rfl, rfl, by decide +kernel, rfl, by decide +kernel, by decide +kernel⟩
theorem ok__law_pick (fr : Fre mg) (F : Fu K mg "_law_pick" s__law_pick) (C__law_random : Cal P w K mg base 2 "_law_random" s__law_random ["generator", "bound"] m__law_random) : Cal P w K mg base 3 "_law_pick" s__law_pick ["generator", "things"] m__law_pick :=
  cal_of (k := 2) (N := ["generator", "things"]) (b := b__law_pick) F sc__law_pick (fun _ _ _ _ _ _ us hl => match us, hl with | [_, _], _ => rfl) fun f cdv A outer s H hr rm =>
  (xs_one (xs_ret (xe_item (w_var 1) (w_call C__law_random hr rm (xa_cons (w_var 0) (xa_cons (xe_len rfl fr.f_len (xa_cons (w_var 1) xa_nil)) xa_nil))))))
theorem sc__law_copied : FnScope ["value", "item", "key"] ["value"] (defScope s__law_copied) := ⟨rfl, rfl, rfl, by decide +kernel, rfl, by decide +kernel, by decide +kernel⟩
theorem ok__law_copied (fr : Fre mg) (F : Fu K mg "_law_copied" s__law_copied)  : Cal P w K mg base 6 "_law_copied" s__law_copied ["value"] m__law_copied :=
  cal_rec (k := 0) (N := ["value", "item", "key"]) (b := b__law_copied) 6 F sc__law_copied (fun _ _ _ _ _ _ us hl => match us, hl with | [_], _ => rfl) fun l self C_self f cdv A outer s H hr rm =>
  (xs_cons (xs_if (xt_of (xe_isi rfl fr.f_isinstance rfl fr.f_list (by decide +kernel) (w_var 0))) (xs_one (xs_ret (xe_comp (own := [("item", 1)]) rfl sc__law_copied.nd (xi_seq (w_var 0)) (blkOk_by rfl) (fun _ _ _ _ _ => (w_gn 1 sc__law_copied.nd)) (fun _ _ _ _ _ => xts_nil) (fun _ _ _ _ _ => (w_call C_self hr rm.blk (xa_cons (w_var 1) xa_nil) (hj := Nat.le_refl _)))))) xs_nil)
  (xs_cons (xs_if (xt_of (xe_isi rfl fr.f_isinstance rfl fr.f_tuple (by decide +kernel) (w_var 0))) (xs_one (xs_ret (xe_tuple1 rfl fr.f_tuple (xa_cons (xe_comp (own := [("item", 1)]) rfl sc__law_copied.nd (xi_seq (w_var 0)) (blkOk_by rfl) (fun _ _ _ _ _ => (w_gn 1 sc__law_copied.nd)) (fun _ _ _ _ _ => xts_nil) (fun _ _ _ _ _ => (w_call C_self hr rm.blk (xa_cons (w_var 1) xa_nil) (hj := Nat.le_refl _)))) xa_nil)))) xs_nil)
  (xs_one (xs_ret (xe_if (xt_of (xe_isi rfl fr.f_isinstance rfl fr.f_dict (by decide +kernel) (w_var 0))) (xe_dictP rm rfl fr.f_dict (xa_cons (xe_comp (own := [("key", 2)]) rfl sc__law_copied.nd (xi_seq (w_var 0)) (blkOk_by rfl) (fun _ _ _ _ _ => (w_gn 2 sc__law_copied.nd)) (fun _ _ _ _ _ => xts_nil) (fun _ _ _ _ _ => (xe_tup (xa_cons (w_var 2) (xa_cons (w_call C_self hr rm.blk (xa_cons (xe_dget rm.blk (w_var 0) (w_var 2)) xa_nil) (hj := Nat.le_refl _)) xa_nil))))) xa_nil)) (w_var 0))))))
theorem sc__law_exact : FnScope ["told", "due", "one", "other"] ["told", "due"] (defScope s__law_exact) := ⟨rfl, rfl, rfl, by decide +kernel, rfl, by decide +kernel, by decide +kernel⟩
theorem ok__law_exact (fr : Fre mg) (F : Fu K mg "_law_exact" s__law_exact)  : Cal P w K mg base 6 "_law_exact" s__law_exact ["told", "due"] m__law_exact :=
  cal_rec (k := 0) (N := ["told", "due", "one", "other"]) (b := b__law_exact) 6 F sc__law_exact (fun _ _ _ _ _ _ us hl => match us, hl with | [_, _], _ => rfl) fun l self C_self f cdv A outer s H hr rm =>
  (xs_cons (xs_if (xt_of (xe_isi rfl fr.f_isinstance rfl fr.f_list (by decide +kernel) (w_var 1))) (xs_one (xs_ret (xe_and (xe_isi rfl fr.f_isinstance rfl fr.f_list (by decide +kernel) (w_var 0)) (xe_and (xe_eq rm (xe_len rfl fr.f_len (xa_cons (w_var 0) xa_nil)) (xe_len rfl fr.f_len (xa_cons (w_var 1) xa_nil))) (xe_and1 (xe_notin rm xe_bl (xe_comp (own := [("one", 2), ("other", 3)]) rfl sc__law_exact.nd (xi_zip rfl fr.f_zip (xa_cons (w_var 0) (xa_cons (w_var 1) xa_nil))) (blkOk_by rfl) (fun _ _ _ _ _ => (xg_tup rfl (xgs_cons (w_gn 2 sc__law_exact.nd) (xgs_cons (w_gn 3 sc__law_exact.nd) xgs_nil)))) (fun _ _ _ _ _ => xts_nil) (fun _ _ _ _ _ => (w_call C_self hr rm.blk (xa_cons (w_var 2) (xa_cons (w_var 3) xa_nil)) (hj := Nat.le_refl _)))))))))) xs_nil)
  (xs_cons (xs_if (xt_of (xe_isi rfl fr.f_isinstance rfl fr.f_tuple (by decide +kernel) (w_var 1))) (xs_one (xs_ret (xe_and (xe_isi rfl fr.f_isinstance rfl fr.f_tuple (by decide +kernel) (w_var 0)) (xe_and (xe_eq rm (xe_len rfl fr.f_len (xa_cons (w_var 0) xa_nil)) (xe_len rfl fr.f_len (xa_cons (w_var 1) xa_nil))) (xe_and1 (xe_notin rm xe_bl (xe_comp (own := [("one", 2), ("other", 3)]) rfl sc__law_exact.nd (xi_zip rfl fr.f_zip (xa_cons (w_var 0) (xa_cons (w_var 1) xa_nil))) (blkOk_by rfl) (fun _ _ _ _ _ => (xg_tup rfl (xgs_cons (w_gn 2 sc__law_exact.nd) (xgs_cons (w_gn 3 sc__law_exact.nd) xgs_nil)))) (fun _ _ _ _ _ => xts_nil) (fun _ _ _ _ _ => (w_call C_self hr rm.blk (xa_cons (w_var 2) (xa_cons (w_var 3) xa_nil)) (hj := Nat.le_refl _)))))))))) xs_nil)
  (xs_cons (xs_if (xt_is (w_var 1) xe_non) (xs_one (xs_ret (xe_is (w_var 0) xe_non))) xs_nil)
  (xs_cons (xs_if (xt_is (w_var 1) xe_bl) (xs_one (xs_ret (xe_is (w_var 0) xe_bl))) xs_nil)
  (xs_cons (xs_if (xt_is (w_var 1) xe_bl) (xs_one (xs_ret (xe_is (w_var 0) xe_bl))) xs_nil)
  (xs_cons (xs_if (xt_of (xe_isi rfl fr.f_isinstance rfl fr.f_int (by decide +kernel) (w_var 1))) (xs_one (xs_ret (xe_and (xe_isi rfl fr.f_isinstance rfl fr.f_int (by decide +kernel) (w_var 0)) (xe_and (xe_not (xe_isi rfl fr.f_isinstance rfl fr.f_bool (by decide +kernel) (w_var 0))) (xe_and1 (xe_eq rm (w_var 0) (w_var 1))))))) xs_nil)
  (xs_one (xs_ret (xe_and (xe_isi rfl fr.f_isinstance rfl fr.f_str (by decide +kernel) (w_var 0)) (xe_and1 (xe_eq rm (w_var 0) (w_var 1))))))))))))
theorem sc__law_low : FnScope ["above", "below", "turn", "one", "other"] ["above", "below"] (defScope s__law_low) := ⟨rfl, rfl, rfl, by decide +kernel, rfl, by decide +kernel, by decide +kernel⟩
theorem ok__law_low (fr : Fre mg) (F : Fu K mg "_law_low" s__law_low)  : Cal P w K mg base 1 "_law_low" s__law_low ["above", "below"] m__law_low :=
  cal_of (k := 0) (N := ["above", "below", "turn", "one", "other"]) (b := b__law_low) F sc__law_low (fun _ _ _ _ _ _ us hl => match us, hl with | [_, _], _ => rfl) fun f cdv A outer s H hr rm =>
  (xs_cons (xs_parO (i := 3) (j := 4) rfl sc__law_low.nd (xao_dat (xe_abs rfl fr.f_abs (xa_cons (w_var 0) xa_nil)) (xao_dat (w_var 1) xao_nil)))
  (xs_cons (w_for [2] (xi_range1 rfl fr.f_range (xa_cons (xe_add (xe_mul (xe_len rfl fr.f_len (xa_cons (xe_str1 rm rfl fr.f_str (xa_cons (w_var 1) xa_nil)) xa_nil)) xe_int) xe_int) xa_nil)) (w_gn 2 sc__law_low.nd) (xs_one (xs_asg (ws := [3, 4]) (xe_if (xt_gt rm (w_var 4) xe_int) (xe_tup (xa_cons (w_var 4) (xa_cons (xe_mod (w_var 3) (w_var 4)) xa_nil))) (xe_tup (xa_cons (w_var 3) (xa_cons xe_int xa_nil)))) (xg_tup rfl (xgs_cons (w_gn 3 sc__law_low.nd) (xgs_cons (w_gn 4 sc__law_low.nd) xgs_nil))))))
  (xs_one (xs_ret (xe_tup (xa_cons (xe_div (w_var 0) (w_var 3)) (xa_cons (xe_div (w_var 1) (w_var 3)) xa_nil)))))))
theorem sc__law_any : FnScope ["generator", "menu"] ["generator"] (defScope s__law_any) := ⟨rfl, rfl, rfl, by decide +kernel, rfl, by decide +kernel, by decide +kernel⟩
theorem ok__law_any (fr : Fre mg) (F : Fu K mg "_law_any" s__law_any) (C__law_copied : Cal P w K mg base 6 "_law_copied" s__law_copied ["value"] m__law_copied) (C__law_pick : Cal P w K mg base 3 "_law_pick" s__law_pick ["generator", "things"] m__law_pick) : Cal P w K mg base 7 "_law_any" s__law_any ["generator"] m__law_any :=
  cal_of (k := 6) (N := ["generator", "menu"]) (b := b__law_any) F sc__law_any (fun _ _ _ _ _ _ us hl => match us, hl with | [_], _ => rfl) fun f cdv A outer s H hr rm =>
  (xs_cons (w_set 1 sc__law_any.nd (xe_lst (xa_cons xe_non (xa_cons xe_bl (xa_cons xe_bl (xa_cons xe_int (xa_cons xe_int (xa_cons (xe_neg xe_int) (xa_cons (xe_pow xe_int xe_int) (xa_cons xe_str (xa_cons xe_str (xa_cons xe_str (xa_cons xe_str (xa_cons xe_str (xa_cons xe_str (xa_cons xe_str (xa_cons xe_str (xa_cons xe_str (xa_cons (xe_mul xe_str xe_int) (xa_cons (xe_mul xe_str xe_int) (xa_cons xe_str (xa_cons xe_str xa_nil))))))))))))))))))))))
  (xs_cons (w_set 1 sc__law_any.nd (xe_add (w_var 1) (xe_lst (xa_cons (xe_lst xa_nil) (xa_cons (xe_tup xa_nil) (xa_cons xe_dict0 (xa_cons (xe_lst (xa_cons xe_int xa_nil)) (xa_cons (xe_lst (xa_cons xe_int (xa_cons xe_int xa_nil))) (xa_cons (xe_lst (xa_cons xe_int (xa_cons xe_str xa_nil))) (xa_cons (xe_lst (xa_cons xe_str (xa_cons xe_int xa_nil))) (xa_cons (xe_lst (xa_cons xe_non (xa_cons xe_int xa_nil))) (xa_cons (xe_lst (xa_cons xe_int (xa_cons (xe_lst (xa_cons xe_int xa_nil)) xa_nil))) (xa_cons (xe_lst (xa_cons xe_int (xa_cons (xe_tup (xa_cons xe_int xa_nil)) xa_nil))) (xa_cons (xe_lst (xa_cons xe_bl xa_nil)) (xa_cons (xe_lst (xa_cons xe_int (xa_cons xe_int xa_nil))) (xa_cons (xe_lst (xa_cons xe_int (xa_cons xe_int xa_nil))) (xa_cons (xe_tup (xa_cons xe_int (xa_cons xe_int xa_nil))) (xa_cons (xe_lst (xa_cons xe_str xa_nil)) (xa_cons (xe_lst (xa_cons (xe_lst xa_nil) xa_nil)) xa_nil)))))))))))))))))))
  (xs_cons (w_set 1 sc__law_any.nd (xe_add (w_var 1) (xe_lst (xa_cons (xe_dictC (kvs := [(.inr "a", (.int 1))]) (ds := [((.str "a"), (.int 1))]) (pps_cons pe_str pe_int pps_nil) rfl rfl (by simp) (by decide) (by decide) (by decide +kernel) rfl (fun _ _ => (.cons (.int _) .nil))) (xa_cons (xe_lst (xa_cons xe_int (xa_cons xe_int (xa_cons (xe_pow xe_int xe_int) xa_nil)))) (xa_cons (xe_lst (xa_cons (xe_neg xe_int) xa_nil)) (xa_cons xe_str (xa_cons xe_str (xa_cons (xe_mul xe_str xe_int) (xa_cons xe_str (xa_cons xe_str (xa_cons xe_str (xa_cons (xe_tup (xa_cons xe_str xa_nil)) xa_nil)))))))))))))
  (xs_one (xs_ret (w_call C__law_copied hr rm (xa_cons (w_call C__law_pick hr rm (xa_cons (w_var 0) (xa_cons (w_var 1) xa_nil))) xa_nil)))))))
theorem sc__law_big : FnScope ["generator", "far"] ["generator"] (defScope s__law_big) := ⟨rfl, rfl, rfl, by decide +kernel, rfl, by decide +kernel, by decide +kernel⟩
theorem ok__law_big (fr : Fre mg) (F : Fu K mg "_law_big" s__law_big) (C__law_pick : Cal P w K mg base 3 "_law_pick" s__law_pick ["generator", "things"] m__law_pick) (C__law_random : Cal P w K mg base 2 "_law_random" s__law_random ["generator", "bound"] m__law_random) : Cal P w K mg base 4 "_law_big" s__law_big ["generator"] m__law_big :=
  cal_of (k := 3) (N := ["generator", "far"]) (b := b__law_big) F sc__law_big (fun _ _ _ _ _ _ us hl => match us, hl with | [_], _ => rfl) fun f cdv A outer s H hr rm =>
  (xs_cons (w_set 1 sc__law_big.nd (w_call C__law_pick hr rm (xa_cons (w_var 0) (xa_cons (xe_lst (xa_cons xe_int (xa_cons xe_int (xa_cons xe_int (xa_cons (xe_pow xe_int xe_int) (xa_cons (xe_pow xe_int xe_int) xa_nil)))))) xa_nil))))
  (xs_one (xs_ret (xe_mul (w_call C__law_random hr rm (xa_cons (w_var 0) (xa_cons (w_var 1) xa_nil))) (w_call C__law_pick hr rm (xa_cons (w_var 0) (xa_cons (xe_lst (xa_cons xe_int (xa_cons xe_int (xa_cons (xe_sub xe_int xe_int) xa_nil)))) xa_nil)))))))
theorem sc__law_drawn_pair : FnScope ["generator", "below"] ["generator"] (defScope s__law_drawn_pair) := ⟨rfl, rfl, rfl, by decide +kernel, rfl, by decide +kernel, by decide +kernel⟩
theorem ok__law_drawn_pair (fr : Fre mg) (F : Fu K mg "_law_drawn_pair" s__law_drawn_pair) (C__law_big : Cal P w K mg base 4 "_law_big" s__law_big ["generator"] m__law_big) : Cal P w K mg base 5 "_law_drawn_pair" s__law_drawn_pair ["generator"] m__law_drawn_pair :=
  cal_of (k := 4) (N := ["generator", "below"]) (b := b__law_drawn_pair) F sc__law_drawn_pair (fun _ _ _ _ _ _ us hl => match us, hl with | [_], _ => rfl) fun f cdv A outer s H hr rm =>
  (xs_cons (w_set 1 sc__law_drawn_pair.nd (w_call C__law_big hr rm (xa_cons (w_var 0) xa_nil)))
  (xs_one (xs_ret (xe_tup (xa_cons (w_call C__law_big hr rm (xa_cons (w_var 0) xa_nil)) (xa_cons (xe_if (xt_eq rm (w_var 1) xe_int) xe_int (w_var 1)) xa_nil))))))
theorem sc__law_fraction : FnScope ["above", "below", "low"] ["above", "below"] (defScope s__law_fraction) := ⟨rfl, rfl, rfl, by decide +kernel, rfl, by decide +kernel, by decide +kernel⟩
theorem ok__law_fraction (fr : Fre mg) (F : Fu K mg "_law_fraction" s__law_fraction) (C__law_low : Cal P w K mg base 1 "_law_low" s__law_low ["above", "below"] m__law_low) : Cal P w K mg base 2 "_law_fraction" s__law_fraction ["above", "below"] m__law_fraction :=
  cal_of (k := 1) (N := ["above", "below", "low"]) (b := b__law_fraction) F sc__law_fraction (fun _ _ _ _ _ _ us hl => match us, hl with | [_, _], _ => rfl) fun f cdv A outer s H hr rm =>
  (xs_cons (xs_if (xt_lt rm (w_var 1) xe_int) (xs_one (xs_parO (i := 0) (j := 1) rfl sc__law_fraction.nd (xao_dat (xe_sub xe_int (w_var 0)) (xao_dat (xe_sub xe_int (w_var 1)) xao_nil)))) xs_nil)
  (xs_cons (w_set 2 sc__law_fraction.nd (w_call C__law_low hr rm (xa_cons (w_var 0) (xa_cons (w_var 1) xa_nil))))
  (xs_one (xs_ret (xe_if (xt_gt rm (xe_item (w_var 2) xe_int) xe_int) (w_var 2) (xe_tup (xa_cons xe_int (xa_cons xe_int xa_nil))))))))
theorem sc__law_is_fraction : FnScope ["value", "part"] ["value"] (defScope s__law_is_fraction) := ⟨rfl, rfl, rfl, by decide +kernel, rfl, by decide +kernel, by decide +kernel⟩
theorem ok__law_is_fraction (fr : Fre mg) (F : Fu K mg "_law_is_fraction" s__law_is_fraction) (C__law_fraction : Cal P w K mg base 2 "_law_fraction" s__law_fraction ["above", "below"] m__law_fraction) : Cal P w K mg base 3 "_law_is_fraction" s__law_is_fraction ["value"] m__law_is_fraction :=
  cal_of (k := 2) (N := ["value", "part"]) (b := b__law_is_fraction) F sc__law_is_fraction (fun _ _ _ _ _ _ us hl => match us, hl with | [_], _ => rfl) fun f cdv A outer s H hr rm =>
  (xs_cons (xs_if (xt_w (xw_or (xt_not (xt_of (xe_isi rfl fr.f_isinstance rfl fr.f_tuple (by decide +kernel) (w_var 0)))) (xw_or (xt_ne rm (xe_len rfl fr.f_len (xa_cons (w_var 0) xa_nil)) xe_int) (xw_or1 (xt_ne rm (xe_comp (own := [("part", 1)]) rfl sc__law_is_fraction.nd (xi_seq (w_var 0)) (blkOk_by rfl) (fun _ _ _ _ _ => (w_gn 1 sc__law_is_fraction.nd)) (fun _ _ _ _ _ => (xts_one (xt_w (xw_or (xt_of (xe_isi rfl fr.f_isinstance rfl fr.f_bool (by decide +kernel) (w_var 1))) (xw_or1 (xt_not (xt_of (xe_isi rfl fr.f_isinstance rfl fr.f_int (by decide +kernel) (w_var 1))))))))) (fun _ _ _ _ _ => (w_var 1))) (xe_lst xa_nil)))))) (xs_one (xs_ret xe_bl)) xs_nil)
  (xs_one (xs_ret (xe_and (xe_gt rm (xe_item (w_var 0) xe_int) xe_int) (xe_and1 (xe_eq rm (w_call C__law_fraction hr rm (xa_cons (xe_item (w_var 0) xe_int) (xa_cons (xe_item (w_var 0) xe_int) xa_nil))) (w_var 0)))))))
theorem sc__law_made_right : FnScope ["generator", "times", "due", "told", "values", "value", "above", "below", "shown"] ["generator"] (defScope s__law_made_right) := ⟨rfl, rfl, rfl, by decide +kernel, rfl, by decide +kernel, by decide +kernel⟩
theorem kw_fraction_of_0_below_above : KwC "fraction_of" s_fraction_of ["above", "below"] 0 ["below", "above"] [1, 0] := fun kV doc pm an cdv ct us ws h1 h2 => match us, ws, h1, h2 with | [], [_, _], _, _ => rfl
theorem kw_is_fraction_0_value : KwC "is_fraction" s_is_fraction ["value"] 0 ["value"] [0] := fun kV doc pm an cdv ct us ws h1 h2 => match us, ws, h1, h2 with | [], [_], _, _ => rfl
theorem ok__law_made_right (fr : Fre mg) (F : Fu K mg "_law_made_right" s__law_made_right) (C__law_drawn_pair : Cal P w K mg base 5 "_law_drawn_pair" s__law_drawn_pair ["generator"] m__law_drawn_pair) (C__law_random : Cal P w K mg base 2 "_law_random" s__law_random ["generator", "bound"] m__law_random) (C__law_fraction : Cal P w K mg base 2 "_law_fraction" s__law_fraction ["above", "below"] m__law_fraction) (C_fraction_of : Cal P w K mg base 3 "fraction_of" s_fraction_of ["above", "below"] m_fraction_of) (C__law_exact : Cal P w K mg base 6 "_law_exact" s__law_exact ["told", "due"] m__law_exact) (C__law_any : Cal P w K mg base 7 "_law_any" s__law_any ["generator"] m__law_any) (C__law_is_fraction : Cal P w K mg base 3 "_law_is_fraction" s__law_is_fraction ["value"] m__law_is_fraction) (C_is_fraction : Cal P w K mg base 2 "is_fraction" s_is_fraction ["value"] m_is_fraction) : Cal P w K mg base 8 "_law_made_right" s__law_made_right ["generator"] m__law_made_right :=
  cal_of (k := 7) (N := ["generator", "times", "due", "told", "values", "value", "above", "below", "shown"]) (b := b__law_made_right) F sc__law_made_right (fun _ _ _ _ _ _ us hl => match us, hl with | [_], _ => rfl) fun f cdv A outer s H hr rm =>
  (xs_cons (xs_asg (ws := [6, 7]) (w_call C__law_drawn_pair hr rm (xa_cons (w_var 0) xa_nil)) (xg_tup rfl (xgs_cons (w_gn 6 sc__law_made_right.nd) (xgs_cons (w_gn 7 sc__law_made_right.nd) xgs_nil))))
  (xs_cons (w_set 1 sc__law_made_right.nd (xe_add xe_int (w_call C__law_random hr rm (xa_cons (w_var 0) (xa_cons xe_int xa_nil)))))
  (xs_cons (w_set 2 sc__law_made_right.nd (w_call C__law_fraction hr rm (xa_cons (w_var 6) (xa_cons (w_var 7) xa_nil))))
  (xs_cons (w_set 3 sc__law_made_right.nd (xe_lst (xa_cons (w_call C_fraction_of hr rm (xa_cons (w_var 6) (xa_cons (w_var 7) xa_nil))) (xa_cons (w_callK0 C_fraction_of hr rm kw_fraction_of_0_below_above (xk_cons (xe_mul (w_var 7) (w_var 1)) (xk_cons (xe_mul (w_var 6) (w_var 1)) xk_nil))) (xa_cons (w_call C_fraction_of hr rm (xa_cons (xe_sub xe_int (w_var 6)) (xa_cons (xe_sub xe_int (w_var 7)) xa_nil))) xa_nil)))))
  (xs_cons (xs_if (xt_not (xt_of (w_call C__law_exact hr rm (xa_cons (w_var 3) (xa_cons (xe_lst (xa_cons (w_var 2) (xa_cons (w_var 2) (xa_cons (w_var 2) xa_nil)))) xa_nil))))) (xs_one (xs_ret xe_bl)) xs_nil)
  (xs_cons (w_set 4 sc__law_made_right.nd (xe_lst (xa_cons (w_var 2) (xa_cons (xe_list1 rm rfl fr.f_list (xa_cons (w_var 2) xa_nil)) (xa_cons (xe_add (w_var 2) (xe_tup (xa_cons xe_int xa_nil))) (xa_cons (xe_slice (w_var 2) xo_none (xo_some xe_int)) (xa_cons (xe_tup (xa_cons (w_var 6) (xa_cons (w_var 7) xa_nil))) (xa_cons (xe_tup (xa_cons (xe_mul (w_var 6) (w_var 1)) (xa_cons (xe_mul (w_var 7) (w_var 1)) xa_nil))) (xa_cons (xe_tup (xa_cons (xe_item (w_var 2) xe_int) (xa_cons (xe_sub xe_int (xe_item (w_var 2) xe_int)) xa_nil))) xa_nil)))))))))
  (xs_cons (w_set 4 sc__law_made_right.nd (xe_add (w_var 4) (xe_lst (xa_cons (xe_tup (xa_cons (xe_item (w_var 2) xe_int) (xa_cons xe_int xa_nil))) (xa_cons (xe_tup (xa_cons xe_bl (xa_cons xe_int xa_nil))) (xa_cons (xe_tup (xa_cons xe_int (xa_cons xe_bl xa_nil))) (xa_cons (xe_tup (xa_cons xe_str (xa_cons xe_int xa_nil))) (xa_cons xe_non (xa_cons (w_var 6) (xa_cons (xe_tup (xa_cons xe_int (xa_cons xe_int xa_nil))) (xa_cons (xe_tup (xa_cons xe_int (xa_cons xe_int xa_nil))) (xa_cons (w_call C__law_any hr rm (xa_cons (w_var 0) xa_nil)) xa_nil))))))))))))
  (xs_cons (w_set 4 sc__law_made_right.nd (xe_add (w_var 4) (xe_lst (xa_cons (xe_tup (xa_cons xe_int (xa_cons xe_bl xa_nil))) (xa_cons (xe_tup (xa_cons xe_bl (xa_cons xe_int xa_nil))) (xa_cons (xe_tup (xa_cons xe_bl (xa_cons xe_bl xa_nil))) (xa_cons (xe_tup (xa_cons xe_int (xa_cons xe_non xa_nil))) (xa_cons (xe_tup (xa_cons xe_int (xa_cons xe_str xa_nil))) (xa_cons (xe_tup (xa_cons xe_int (xa_cons (xe_tup (xa_cons xe_int xa_nil)) xa_nil))) xa_nil)))))))))
  (xs_cons (w_for [5] (xi_seq (w_var 4)) (w_gn 5 sc__law_made_right.nd) (xs_cons (w_set 8 sc__law_made_right.nd (xe_repr rm rfl fr.f_repr (xa_cons (w_var 5) xa_nil)))
  (xs_one (xs_if (xt_w (xw_or (xt_not (xt_of (w_call C__law_exact hr rm (xa_cons (xe_lst (xa_cons (w_call C_is_fraction hr rm (xa_cons (w_var 5) xa_nil)) (xa_cons (w_callK0 C_is_fraction hr rm kw_is_fraction_0_value (xk_cons (w_var 5) xk_nil)) xa_nil))) (xa_cons (xe_mul (xe_lst (xa_cons (w_call C__law_is_fraction hr rm (xa_cons (w_var 5) xa_nil)) xa_nil)) xe_int) xa_nil))))) (xw_or1 (xt_ne rm (xe_repr rm rfl fr.f_repr (xa_cons (w_var 5) xa_nil)) (w_var 8))))) (xs_one (xs_ret xe_bl)) xs_nil))))
  (xs_one (xs_ret xe_bl)))))))))))
theorem sc__law_sums_right : FnScope ["generator", "items", "item", "pair", "kept", "total", "product", "one", "other", "due", "turn"] ["generator"] (defScope s__law_sums_right) := ⟨rfl, rfl, rfl, by decide +kernel, rfl, by decide +kernel, by decide +kernel⟩
theorem kw_product_of_0_fractions : KwC "product_of" s_product_of ["fractions"] 0 ["fractions"] [0] := fun kV doc pm an cdv ct us ws h1 h2 => match us, ws, h1, h2 with | [], [_], _, _ => rfl
theorem kw_sum_of_0_fractions : KwC "sum_of" s_sum_of ["fractions"] 0 ["fractions"] [0] := fun kV doc pm an cdv ct us ws h1 h2 => match us, ws, h1, h2 with | [], [_], _, _ => rfl
theorem kw_is_less_0_other_one : KwC "is_less" s_is_less ["one", "other"] 0 ["other", "one"] [1, 0] := fun kV doc pm an cdv ct us ws h1 h2 => match us, ws, h1, h2 with | [], [_, _], _, _ => rfl
theorem ok__law_sums_right (fr : Fre mg) (F : Fu K mg "_law_sums_right" s__law_sums_right) (C__law_random : Cal P w K mg base 2 "_law_random" s__law_random ["generator", "bound"] m__law_random) (C__law_drawn_pair : Cal P w K mg base 5 "_law_drawn_pair" s__law_drawn_pair ["generator"] m__law_drawn_pair) (C__law_fraction : Cal P w K mg base 2 "_law_fraction" s__law_fraction ["above", "below"] m__law_fraction) (C__law_exact : Cal P w K mg base 6 "_law_exact" s__law_exact ["told", "due"] m__law_exact) (C_product_of : Cal P w K mg base 5 "product_of" s_product_of ["fractions"] m_product_of) (C_sum_of : Cal P w K mg base 5 "sum_of" s_sum_of ["fractions"] m_sum_of) (C__law_pick : Cal P w K mg base 3 "_law_pick" s__law_pick ["generator", "things"] m__law_pick) (C_is_less : Cal P w K mg base 4 "is_less" s_is_less ["one", "other"] m_is_less) : Cal P w K mg base 7 "_law_sums_right" s__law_sums_right ["generator"] m__law_sums_right :=
  cal_of (k := 6) (N := ["generator", "items", "item", "pair", "kept", "total", "product", "one", "other", "due", "turn"]) (b := b__law_sums_right) F sc__law_sums_right (fun _ _ _ _ _ _ us hl => match us, hl with | [_], _ => rfl) fun f cdv A outer s H hr rm =>
  (xs_cons (xs_setC (i := 1) (own := [("pair", 3)]) rfl sc__law_sums_right.nd rfl rfl (sw_true rfl rfl rfl rfl) (xi_seq (xe_comp (own := [("turn", 10)]) rfl sc__law_sums_right.nd (xi_range1 rfl fr.f_range (xa_cons (w_call C__law_random hr rm (xa_cons (w_var 0) (xa_cons xe_int xa_nil))) xa_nil)) (blkOk_by rfl) (fun _ _ _ _ _ => (w_gn 10 sc__law_sums_right.nd)) (fun _ _ _ _ _ => xts_nil) (fun _ _ _ _ _ => (w_call C__law_drawn_pair hr rm.blk (xa_cons (w_var 0) xa_nil))))) (blkOk_by rfl) (fun _ _ _ _ _ => (w_gn 3 sc__law_sums_right.nd)) (fun _ _ _ _ _ => xts_nil) (fun _ _ _ _ _ => (w_call C__law_fraction hr rm.blk (xa_cons (xe_item (w_var 3) xe_int) (xa_cons (xe_item (w_var 3) xe_int) xa_nil)))))
  (xs_cons (xs_par3 (i := 4) (j := 5) (l := 6) rfl sc__law_sums_right.nd (xao_dat (xe_repr rm rfl fr.f_repr (xa_cons (w_var 1) xa_nil)) (xao_dat (xe_tup (xa_cons xe_int (xa_cons xe_int xa_nil))) (xao_dat (xe_tup (xa_cons xe_int (xa_cons xe_int xa_nil))) xao_nil))))
  (xs_cons (w_for [2] (xi_seq (w_var 1)) (w_gn 2 sc__law_sums_right.nd) (xs_cons (w_set 5 sc__law_sums_right.nd (w_call C__law_fraction hr rm (xa_cons (xe_add (xe_mul (xe_item (w_var 5) xe_int) (xe_item (w_var 2) xe_int)) (xe_mul (xe_item (w_var 2) xe_int) (xe_item (w_var 5) xe_int))) (xa_cons (xe_mul (xe_item (w_var 5) xe_int) (xe_item (w_var 2) xe_int)) xa_nil))))
  (xs_one (w_set 6 sc__law_sums_right.nd (w_call C__law_fraction hr rm (xa_cons (xe_mul (xe_item (w_var 6) xe_int) (xe_item (w_var 2) xe_int)) (xa_cons (xe_mul (xe_item (w_var 6) xe_int) (xe_item (w_var 2) xe_int)) xa_nil)))))))
  (xs_cons (xs_if (xt_not (xt_of (w_call C__law_exact hr rm (xa_cons (xe_lst (xa_cons (w_call C_sum_of hr rm (xa_cons (w_var 1) xa_nil)) (xa_cons (w_callK0 C_sum_of hr rm kw_sum_of_0_fractions (xk_cons (w_var 1) xk_nil)) (xa_cons (w_call C_product_of hr rm (xa_cons (w_var 1) xa_nil)) (xa_cons (w_callK0 C_product_of hr rm kw_product_of_0_fractions (xk_cons (w_var 1) xk_nil)) xa_nil))))) (xa_cons (xe_lst (xa_cons (w_var 5) (xa_cons (w_var 5) (xa_cons (w_var 6) (xa_cons (w_var 6) xa_nil))))) xa_nil))))) (xs_one (xs_ret xe_bl)) xs_nil)
  (xs_cons (w_set 1 sc__law_sums_right.nd (xe_add (w_var 1) (xe_lst (xa_cons (xe_tup (xa_cons xe_int (xa_cons xe_int xa_nil))) (xa_cons (xe_tup (xa_cons xe_int (xa_cons xe_int xa_nil))) (xa_cons (xe_tup (xa_cons (xe_sub xe_int xe_int) (xa_cons xe_int xa_nil))) (xa_cons (xe_tup (xa_cons xe_int (xa_cons xe_int xa_nil))) xa_nil)))))))
  (xs_cons (xs_parO (i := 7) (j := 8) rfl sc__law_sums_right.nd (xao_dat (w_call C__law_pick hr rm (xa_cons (w_var 0) (xa_cons (w_var 1) xa_nil))) (xao_dat (w_call C__law_pick hr rm (xa_cons (w_var 0) (xa_cons (w_var 1) xa_nil))) xao_nil)))
  (xs_cons (w_for [3] (xi_seq (xe_lst (xa_cons (xe_tup (xa_cons (w_var 7) (xa_cons (w_var 8) xa_nil))) (xa_cons (xe_tup (xa_cons (w_var 8) (xa_cons (w_var 7) xa_nil))) (xa_cons (xe_tup (xa_cons (w_var 7) (xa_cons (w_var 7) xa_nil))) xa_nil))))) (w_gn 3 sc__law_sums_right.nd) (xs_cons (w_set 9 sc__law_sums_right.nd (xe_lt rm (xe_mul (xe_item (xe_item (w_var 3) xe_int) xe_int) (xe_item (xe_item (w_var 3) xe_int) xe_int)) (xe_mul (xe_item (xe_item (w_var 3) xe_int) xe_int) (xe_item (xe_item (w_var 3) xe_int) xe_int))))
  (xs_one (xs_if (xt_not (xt_of (w_call C__law_exact hr rm (xa_cons (xe_lst (xa_cons (w_call C_is_less hr rm (xa_cons (xe_item (w_var 3) xe_int) (xa_cons (xe_item (w_var 3) xe_int) xa_nil))) (xa_cons (w_callK0 C_is_less hr rm kw_is_less_0_other_one (xk_cons (xe_item (w_var 3) xe_int) (xk_cons (xe_item (w_var 3) xe_int) xk_nil))) xa_nil))) (xa_cons (xe_lst (xa_cons (w_var 9) (xa_cons (w_var 9) xa_nil))) xa_nil))))) (xs_one (xs_ret xe_bl)) xs_nil))))
  (xs_one (xs_ret (xe_eq rm (w_var 4) (xe_repr rm rfl fr.f_repr (xa_cons (xe_slice (w_var 1) xo_none (xo_some (xe_sub xe_int xe_int))) xa_nil))))))))))))
theorem sc__law_long_right : FnScope ["generator", "items", "item", "both", "total", "product", "shown", "told", "pair", "turn"] ["generator"] (defScope s__law_long_right) := ⟨rfl, rfl, rfl, by decide +kernel, rfl, by decide +kernel, by decide +kernel⟩
theorem ok__law_long_right (fr : Fre mg) (F : Fu K mg "_law_long_right" s__law_long_right) (C__law_drawn_pair : Cal P w K mg base 5 "_law_drawn_pair" s__law_drawn_pair ["generator"] m__law_drawn_pair) (C__law_fraction : Cal P w K mg base 2 "_law_fraction" s__law_fraction ["above", "below"] m__law_fraction) (C_sum_of : Cal P w K mg base 5 "sum_of" s_sum_of ["fractions"] m_sum_of) (C__law_exact : Cal P w K mg base 6 "_law_exact" s__law_exact ["told", "due"] m__law_exact) (C_is_fraction : Cal P w K mg base 2 "is_fraction" s_is_fraction ["value"] m_is_fraction) (C_product_of : Cal P w K mg base 5 "product_of" s_product_of ["fractions"] m_product_of) (C_is_less : Cal P w K mg base 4 "is_less" s_is_less ["one", "other"] m_is_less) : Cal P w K mg base 7 "_law_long_right" s__law_long_right ["generator"] m__law_long_right :=
  cal_of (k := 6) (N := ["generator", "items", "item", "both", "total", "product", "shown", "told", "pair", "turn"]) (b := b__law_long_right) F sc__law_long_right (fun _ _ _ _ _ _ us hl => match us, hl with | [_], _ => rfl) fun f cdv A outer s H hr rm =>
  (xs_cons (xs_setC (i := 1) (own := [("pair", 8)]) rfl sc__law_long_right.nd rfl rfl (sw_true rfl rfl rfl rfl) (xi_seq (xe_comp (own := [("turn", 9)]) rfl sc__law_long_right.nd (xi_range1 rfl fr.f_range (xa_cons xe_int xa_nil)) (blkOk_by rfl) (fun _ _ _ _ _ => (w_gn 9 sc__law_long_right.nd)) (fun _ _ _ _ _ => xts_nil) (fun _ _ _ _ _ => (w_call C__law_drawn_pair hr rm.blk (xa_cons (w_var 0) xa_nil))))) (blkOk_by rfl) (fun _ _ _ _ _ => (w_gn 8 sc__law_long_right.nd)) (fun _ _ _ _ _ => xts_nil) (fun _ _ _ _ _ => (w_call C__law_fraction hr rm.blk (xa_cons (xe_item (w_var 8) xe_int) (xa_cons (xe_item (w_var 8) xe_int) xa_nil)))))
  (xs_cons (xs_asg (ws := [4, 5]) (xe_tup (xa_cons (xe_tup (xa_cons xe_int (xa_cons xe_int xa_nil))) (xa_cons (xe_tup (xa_cons xe_int (xa_cons xe_int xa_nil))) xa_nil))) (xg_tup rfl (xgs_cons (w_gn 4 sc__law_long_right.nd) (xgs_cons (w_gn 5 sc__law_long_right.nd) xgs_nil))))
  (xs_cons (w_for [2] (xi_seq (w_var 1)) (w_gn 2 sc__law_long_right.nd) (xs_cons (w_set 4 sc__law_long_right.nd (w_call C__law_fraction hr rm (xa_cons (xe_add (xe_mul (xe_item (w_var 4) xe_int) (xe_item (w_var 2) xe_int)) (xe_mul (xe_item (w_var 2) xe_int) (xe_item (w_var 4) xe_int))) (xa_cons (xe_mul (xe_item (w_var 4) xe_int) (xe_item (w_var 2) xe_int)) xa_nil))))
  (xs_one (w_set 5 sc__law_long_right.nd (w_call C__law_fraction hr rm (xa_cons (xe_mul (xe_item (w_var 5) xe_int) (xe_item (w_var 2) xe_int)) (xa_cons (xe_mul (xe_item (w_var 5) xe_int) (xe_item (w_var 2) xe_int)) xa_nil)))))))
  (xs_cons (xs_parO (i := 6) (j := 7) rfl sc__law_long_right.nd (xao_dat (xe_repr rm rfl fr.f_repr (xa_cons (w_var 1) xa_nil)) (xao_dat (w_call C_sum_of hr rm (xa_cons (w_var 1) xa_nil)) xao_nil)))
  (xs_cons (xs_if (xt_w (xw_or (xt_ne rm (xe_repr rm rfl fr.f_repr (xa_cons (w_var 1) xa_nil)) (w_var 6)) (xw_or1 (xt_not (xt_of (w_call C__law_exact hr rm (xa_cons (xe_lst (xa_cons (w_var 7) (xa_cons (w_call C_product_of hr rm (xa_cons (w_var 1) xa_nil)) (xa_cons (w_call C_is_fraction hr rm (xa_cons (w_var 4) xa_nil)) (xa_cons (w_call C_is_fraction hr rm (xa_cons (w_var 5) xa_nil)) xa_nil))))) (xa_cons (xe_lst (xa_cons (w_var 4) (xa_cons (w_var 5) (xa_cons xe_bl (xa_cons xe_bl xa_nil))))) xa_nil)))))))) (xs_one (xs_ret xe_bl)) xs_nil)
  (xs_cons (xs_if (xt_ne rm (xe_repr rm rfl fr.f_repr (xa_cons (w_var 1) xa_nil)) (w_var 6)) (xs_one (xs_ret xe_bl)) xs_nil)
  (xs_cons (w_set 3 sc__law_long_right.nd (w_call C__law_fraction hr rm (xa_cons (xe_add (xe_mul (xe_item (w_var 4) xe_int) (xe_item (w_var 5) xe_int)) (xe_mul (xe_item (w_var 5) xe_int) (xe_item (w_var 4) xe_int))) (xa_cons (xe_mul (xe_item (w_var 4) xe_int) (xe_item (w_var 5) xe_int)) xa_nil))))
  (xs_one (xs_ret (w_call C__law_exact hr rm (xa_cons (xe_lst (xa_cons (w_call C_is_less hr rm (xa_cons (w_var 4) (xa_cons (w_var 5) xa_nil))) (xa_cons (w_call C_sum_of hr rm (xa_cons (xe_lst (xa_cons (w_var 4) (xa_cons (w_var 5) xa_nil))) xa_nil)) xa_nil))) (xa_cons (xe_lst (xa_cons (xe_lt rm (xe_mul (xe_item (w_var 4) xe_int) (xe_item (w_var 5) xe_int)) (xe_mul (xe_item (w_var 5) xe_int) (xe_item (w_var 4) xe_int))) (xa_cons (w_var 3) xa_nil))) xa_nil))))))))))))
theorem sc_law : FnScope ["script", "index", "generator", "turn"] ["script"] (defScope s_law) := ⟨rfl, rfl, rfl, by decide +kernel, rfl, by decide +kernel, by decide +kernel⟩
theorem ok_law (fr : Fre mg) (F : Fu K mg "law" s_law) (C__law_generator : Cal P w K mg base 2 "_law_generator" s__law_generator ["script", "index"] m__law_generator) (C__law_made_right : Cal P w K mg base 8 "_law_made_right" s__law_made_right ["generator"] m__law_made_right) (C__law_sums_right : Cal P w K mg base 7 "_law_sums_right" s__law_sums_right ["generator"] m__law_sums_right) (C__law_long_right : Cal P w K mg base 7 "_law_long_right" s__law_long_right ["generator"] m__law_long_right) : Cal P w K mg base 9 "law" s_law ["script"] m_law :=
  cal_of (k := 8) (N := ["script", "index", "generator", "turn"]) (b := b_law) F sc_law (fun _ _ _ _ _ _ us hl => match us, hl with | [_], _ => rfl) fun f cdv A outer s H hr rm =>
  (xs_cons (w_for [1] (xi_range1 rfl fr.f_range (xa_cons xe_int xa_nil)) (w_gn 1 sc_law.nd) (xs_cons (w_own 2 sc_law.nd (w_call C__law_generator hr rm (xa_cons (w_var 0) (xa_cons (w_var 1) xa_nil))))
  (xs_cons (w_for [3] (xi_range1 rfl fr.f_range (xa_cons xe_int xa_nil)) (w_gn 3 sc_law.nd) (xs_one (xs_if (xt_w (xw_or (xt_not (xt_of (w_call C__law_made_right hr rm (xa_cons (w_var 2) xa_nil)))) (xw_or1 (xt_not (xt_of (w_call C__law_sums_right hr rm (xa_cons (w_var 2) xa_nil))))))) (xs_one (xs_ret xe_bl)) xs_nil)))
  (xs_one (xs_if (xt_not (xt_of (w_call C__law_long_right hr rm (xa_cons (w_var 2) xa_nil)))) (xs_one (xs_ret xe_bl)) xs_nil)))))
  (xs_one (xs_ret xe_bl)))
theorem all_ok (fr : Fre mg) (F_is_whole : Fu K mg "is_whole" s_is_whole) (F_check_list : Fu K mg "check_list" s_check_list) (F_common_of : Fu K mg "common_of" s_common_of) (F_is_fraction : Fu K mg "is_fraction" s_is_fraction) (F_check_fraction : Fu K mg "check_fraction" s_check_fraction) (F_lowest_of : Fu K mg "lowest_of" s_lowest_of) (F_fraction_of : Fu K mg "fraction_of" s_fraction_of) (F_plus_of : Fu K mg "plus_of" s_plus_of) (F_times_of : Fu K mg "times_of" s_times_of) (F_less_than : Fu K mg "less_than" s_less_than) (F_check_fractions : Fu K mg "check_fractions" s_check_fractions) (F_sum_of : Fu K mg "sum_of" s_sum_of) (F_product_of : Fu K mg "product_of" s_product_of) (F_is_less : Fu K mg "is_less" s_is_less) (F__law_hash : Fu K mg "_law_hash" s__law_hash) (F__law_cell : Fu K mg "_law_cell" s__law_cell) (F__law_generator : Fu K mg "_law_generator" s__law_generator) (F__law_random : Fu K mg "_law_random" s__law_random) (F__law_pick : Fu K mg "_law_pick" s__law_pick) (F__law_copied : Fu K mg "_law_copied" s__law_copied) (F__law_exact : Fu K mg "_law_exact" s__law_exact) (F__law_low : Fu K mg "_law_low" s__law_low) (F__law_any : Fu K mg "_law_any" s__law_any) (F__law_big : Fu K mg "_law_big" s__law_big) (F__law_drawn_pair : Fu K mg "_law_drawn_pair" s__law_drawn_pair) (F__law_fraction : Fu K mg "_law_fraction" s__law_fraction) (F__law_is_fraction : Fu K mg "_law_is_fraction" s__law_is_fraction) (F__law_made_right : Fu K mg "_law_made_right" s__law_made_right) (F__law_sums_right : Fu K mg "_law_sums_right" s__law_sums_right) (F__law_long_right : Fu K mg "_law_long_right" s__law_long_right) (F_law : Fu K mg "law" s_law) : Cal P w K mg base 9 "law" s_law ["script"] m_law := by
  have C_is_whole := ok_is_whole (P := P) (w := w) (base := base) fr F_is_whole
  have C_check_list := ok_check_list (P := P) (w := w) (base := base) fr F_check_list
  have C_common_of := ok_common_of (P := P) (w := w) (base := base) fr F_common_of
  have C_is_fraction := ok_is_fraction (P := P) (w := w) (base := base) fr F_is_fraction C_is_whole C_common_of
  have C_check_fraction := ok_check_fraction (P := P) (w := w) (base := base) fr F_check_fraction C_is_fraction
  have C_lowest_of := ok_lowest_of (P := P) (w := w) (base := base) fr F_lowest_of C_common_of
  have C_fraction_of := ok_fraction_of (P := P) (w := w) (base := base) fr F_fraction_of C_is_whole C_lowest_of
  have C_plus_of := ok_plus_of (P := P) (w := w) (base := base) fr F_plus_of C_lowest_of
  have C_times_of := ok_times_of (P := P) (w := w) (base := base) fr F_times_of C_lowest_of
  have C_less_than := ok_less_than (P := P) (w := w) (base := base) fr F_less_than
  have C_check_fractions := ok_check_fractions (P := P) (w := w) (base := base) fr F_check_fractions C_check_list C_check_fraction
  have C_sum_of := ok_sum_of (P := P) (w := w) (base := base) fr F_sum_of C_check_fractions C_plus_of
  have C_product_of := ok_product_of (P := P) (w := w) (base := base) fr F_product_of C_check_fractions C_times_of
  have C_is_less := ok_is_less (P := P) (w := w) (base := base) fr F_is_less C_check_fraction C_less_than
  have C__law_hash := ok__law_hash (P := P) (w := w) (base := base) fr F__law_hash
  have C__law_cell := ok__law_cell (P := P) (w := w) (base := base) fr F__law_cell
  have C__law_generator := ok__law_generator (P := P) (w := w) (base := base) fr F__law_generator C__law_cell
  have C__law_random := ok__law_random (P := P) (w := w) (base := base) fr F__law_random C__law_hash
  have C__law_pick := ok__law_pick (P := P) (w := w) (base := base) fr F__law_pick C__law_random
  have C__law_copied := ok__law_copied (P := P) (w := w) (base := base) fr F__law_copied
  have C__law_exact := ok__law_exact (P := P) (w := w) (base := base) fr F__law_exact
  have C__law_low := ok__law_low (P := P) (w := w) (base := base) fr F__law_low
  have C__law_any := ok__law_any (P := P) (w := w) (base := base) fr F__law_any C__law_copied C__law_pick
  have C__law_big := ok__law_big (P := P) (w := w) (base := base) fr F__law_big C__law_pick C__law_random
  have C__law_drawn_pair := ok__law_drawn_pair (P := P) (w := w) (base := base) fr F__law_drawn_pair C__law_big
  have C__law_fraction := ok__law_fraction (P := P) (w := w) (base := base) fr F__law_fraction C__law_low
  have C__law_is_fraction := ok__law_is_fraction (P := P) (w := w) (base := base) fr F__law_is_fraction C__law_fraction
  have C__law_made_right := ok__law_made_right (P := P) (w := w) (base := base) fr F__law_made_right C__law_drawn_pair C__law_random C__law_fraction C_fraction_of C__law_exact C__law_any C__law_is_fraction C_is_fraction
  have C__law_sums_right := ok__law_sums_right (P := P) (w := w) (base := base) fr F__law_sums_right C__law_random C__law_drawn_pair C__law_fraction C__law_exact C_product_of C_sum_of C__law_pick C_is_less
  have C__law_long_right := ok__law_long_right (P := P) (w := w) (base := base) fr F__law_long_right C__law_drawn_pair C__law_fraction C_sum_of C__law_exact C_is_fraction C_product_of C_is_less
  exact ok_law fr F_law C__law_generator C__law_made_right C__law_sums_right C__law_long_right
end
def d_is_whole : He.DefD := ⟨("is_whole", none), "is_whole", "is_whole", defArgs s_is_whole, defBody s_is_whole, defScope s_is_whole, [], []⟩
def d_check_list : He.DefD := ⟨("check_list", none), "check_list", "check_list", defArgs s_check_list, defBody s_check_list, defScope s_check_list, [], []⟩
def d_common_of : He.DefD := ⟨("common_of", none), "common_of", "common_of", defArgs s_common_of, defBody s_common_of, defScope s_common_of, [], []⟩
def d_is_fraction : He.DefD := ⟨("is_fraction", none), "is_fraction", "is_fraction", defArgs s_is_fraction, defBody s_is_fraction, defScope s_is_fraction, [], []⟩
def d_check_fraction : He.DefD := ⟨("check_fraction", none), "check_fraction", "check_fraction", defArgs s_check_fraction, defBody s_check_fraction, defScope s_check_fraction, [], []⟩
def d_lowest_of : He.DefD := ⟨("lowest_of", none), "lowest_of", "lowest_of", defArgs s_lowest_of, defBody s_lowest_of, defScope s_lowest_of, [], []⟩
def d_fraction_of : He.DefD := ⟨("fraction_of", none), "fraction_of", "fraction_of", defArgs s_fraction_of, defBody s_fraction_of, defScope s_fraction_of, [], []⟩
def d_plus_of : He.DefD := ⟨("plus_of", none), "plus_of", "plus_of", defArgs s_plus_of, defBody s_plus_of, defScope s_plus_of, [], []⟩
def d_times_of : He.DefD := ⟨("times_of", none), "times_of", "times_of", defArgs s_times_of, defBody s_times_of, defScope s_times_of, [], []⟩
def d_less_than : He.DefD := ⟨("less_than", none), "less_than", "less_than", defArgs s_less_than, defBody s_less_than, defScope s_less_than, [], []⟩
def d_check_fractions : He.DefD := ⟨("check_fractions", none), "check_fractions", "check_fractions", defArgs s_check_fractions, defBody s_check_fractions, defScope s_check_fractions, [], []⟩
def d_sum_of : He.DefD := ⟨("sum_of", none), "sum_of", "sum_of", defArgs s_sum_of, defBody s_sum_of, defScope s_sum_of, [], []⟩
def d_product_of : He.DefD := ⟨("product_of", none), "product_of", "product_of", defArgs s_product_of, defBody s_product_of, defScope s_product_of, [], []⟩
def d_is_less : He.DefD := ⟨("is_less", none), "is_less", "is_less", defArgs s_is_less, defBody s_is_less, defScope s_is_less, [], []⟩
def d__law_hash : He.DefD := ⟨("_law_hash", none), "_law_hash", "_law_hash", defArgs s__law_hash, defBody s__law_hash, defScope s__law_hash, [], []⟩
def d__law_cell : He.DefD := ⟨("_law_cell", none), "_law_cell", "_law_cell", defArgs s__law_cell, defBody s__law_cell, defScope s__law_cell, [], []⟩
def d__law_generator : He.DefD := ⟨("_law_generator", none), "_law_generator", "_law_generator", defArgs s__law_generator, defBody s__law_generator, defScope s__law_generator, [], []⟩
def d__law_random : He.DefD := ⟨("_law_random", none), "_law_random", "_law_random", defArgs s__law_random, defBody s__law_random, defScope s__law_random, [], []⟩
def d__law_pick : He.DefD := ⟨("_law_pick", none), "_law_pick", "_law_pick", defArgs s__law_pick, defBody s__law_pick, defScope s__law_pick, [], []⟩
def d__law_copied : He.DefD := ⟨("_law_copied", none), "_law_copied", "_law_copied", defArgs s__law_copied, defBody s__law_copied, defScope s__law_copied, [], []⟩
def d__law_exact : He.DefD := ⟨("_law_exact", none), "_law_exact", "_law_exact", defArgs s__law_exact, defBody s__law_exact, defScope s__law_exact, [], []⟩
def d__law_low : He.DefD := ⟨("_law_low", none), "_law_low", "_law_low", defArgs s__law_low, defBody s__law_low, defScope s__law_low, [], []⟩
def d__law_any : He.DefD := ⟨("_law_any", none), "_law_any", "_law_any", defArgs s__law_any, defBody s__law_any, defScope s__law_any, [], []⟩
def d__law_big : He.DefD := ⟨("_law_big", none), "_law_big", "_law_big", defArgs s__law_big, defBody s__law_big, defScope s__law_big, [], []⟩
def d__law_drawn_pair : He.DefD := ⟨("_law_drawn_pair", none), "_law_drawn_pair", "_law_drawn_pair", defArgs s__law_drawn_pair, defBody s__law_drawn_pair, defScope s__law_drawn_pair, [], []⟩
def d__law_fraction : He.DefD := ⟨("_law_fraction", none), "_law_fraction", "_law_fraction", defArgs s__law_fraction, defBody s__law_fraction, defScope s__law_fraction, [], []⟩
def d__law_is_fraction : He.DefD := ⟨("_law_is_fraction", none), "_law_is_fraction", "_law_is_fraction", defArgs s__law_is_fraction, defBody s__law_is_fraction, defScope s__law_is_fraction, [], []⟩
def d__law_made_right : He.DefD := ⟨("_law_made_right", none), "_law_made_right", "_law_made_right", defArgs s__law_made_right, defBody s__law_made_right, defScope s__law_made_right, [], []⟩
def d__law_sums_right : He.DefD := ⟨("_law_sums_right", none), "_law_sums_right", "_law_sums_right", defArgs s__law_sums_right, defBody s__law_sums_right, defScope s__law_sums_right, [], []⟩
def d__law_long_right : He.DefD := ⟨("_law_long_right", none), "_law_long_right", "_law_long_right", defArgs s__law_long_right, defBody s__law_long_right, defScope s__law_long_right, [], []⟩
def d_law : He.DefD := ⟨("law", none), "law", "law", defArgs s_law, defBody s_law, defScope s_law, [], []⟩
def fn : List He.DefD := [d_is_whole, d_check_list, d_common_of, d_is_fraction, d_check_fraction, d_lowest_of, d_fraction_of, d_plus_of, d_times_of, d_less_than, d_check_fractions, d_sum_of, d_product_of, d_is_less, d__law_hash, d__law_cell, d__law_generator, d__law_random, d__law_pick, d__law_copied, d__law_exact, d__law_low, d__law_any, d__law_big, d__law_drawn_pair, d__law_fraction, d__law_is_fraction, d__law_made_right, d__law_sums_right, d__law_long_right, d_law]
def fa : List He.Fa := [.glo "is_whole", .glo "check_list", .glo "common_of", .glo "is_fraction", .glo "check_fraction", .glo "lowest_of", .glo "fraction_of", .glo "plus_of", .glo "times_of", .glo "less_than", .glo "check_fractions", .glo "sum_of", .glo "product_of", .glo "is_less", .glo "_law_hash", .glo "_law_cell", .glo "_law_generator", .glo "_law_random", .glo "_law_pick", .glo "_law_copied", .glo "_law_exact", .glo "_law_low", .glo "_law_any", .glo "_law_big", .glo "_law_drawn_pair", .glo "_law_fraction", .glo "_law_is_fraction", .glo "_law_made_right", .glo "_law_sums_right", .glo "_law_long_right", .glo "law", .free "abs", .free "bool", .free "dict", .free "int", .free "isinstance", .free "len", .free "list", .free "max", .free "range", .free "repr", .free "str", .free "sum", .free "tuple", .free "zip"]
abbrev R : PySem.W.OpenRow := PySem.W.OpenLaw.row PySem.Challenge.rw_eversame_k03_whole_fractions_made_and_ju
abbrev hk : PySem.W.Hook := He.hookD 4 fa fn
def ob (s : PySem.W.SharedT) : He.AlD := He.obsDG 4 fa fn (HandSHeadRun.getT s)
theorem ob_eq (s : PySem.W.SharedT) : ob s = hk.obs s.abs := He.obsDG_eq (HandSHeadRun.getT_eq s)
def loose : List PySem.Str := [("__name__" : PySem.Str), ("SameError" : PySem.Str), ("InvalidNumber" : PySem.Str), ("InvalidFraction" : PySem.Str), ("InvalidList" : PySem.Str), ("is_whole" : PySem.Str), ("check_list" : PySem.Str), ("common_of" : PySem.Str), ("is_fraction" : PySem.Str), ("check_fraction" : PySem.Str), ("lowest_of" : PySem.Str), ("fraction_of" : PySem.Str), ("plus_of" : PySem.Str), ("times_of" : PySem.Str), ("less_than" : PySem.Str), ("check_fractions" : PySem.Str), ("sum_of" : PySem.Str), ("product_of" : PySem.Str), ("is_less" : PySem.Str), ("_law_hash" : PySem.Str), ("_law_cell" : PySem.Str), ("_law_generator" : PySem.Str), ("_law_random" : PySem.Str), ("_law_pick" : PySem.Str), ("_law_copied" : PySem.Str), ("_law_exact" : PySem.Str), ("_law_low" : PySem.Str), ("_law_any" : PySem.Str), ("_law_big" : PySem.Str), ("_law_drawn_pair" : PySem.Str), ("_law_fraction" : PySem.Str), ("_law_is_fraction" : PySem.Str), ("_law_made_right" : PySem.Str), ("_law_sums_right" : PySem.Str), ("_law_long_right" : PySem.Str)]
theorem run (w : World) : HandSHeadRun.RunEq R (PySem.W.view R.prog [38]) hk ob 8000 loose w := by
  intro os
  kernel_rfl
theorem facts {P : Program} {w : World} {K : PySem.W.Frag} {h : Heap} {mg : Str → Option Value} (X : K.In h) (G : h.Ns mainGlobals mg) (c : He.SaysD fa fn K) : ∀ base : Heap, Cal P w K mg base 9 "law" s_law ["script"] m_law := fun base => by
  have F_is_whole : Fu K mg "is_whole" s_is_whole := by
    obtain ⟨fd, F⟩ := c.def_ 0 (d := d_is_whole) rfl
    exact ⟨_, fd, F, He.glo_ok X G (c.fact 0 (f := .glo "is_whole") rfl)⟩
  have F_check_list : Fu K mg "check_list" s_check_list := by
    obtain ⟨fd, F⟩ := c.def_ 1 (d := d_check_list) rfl
    exact ⟨_, fd, F, He.glo_ok X G (c.fact 1 (f := .glo "check_list") rfl)⟩
  have F_common_of : Fu K mg "common_of" s_common_of := by
    obtain ⟨fd, F⟩ := c.def_ 2 (d := d_common_of) rfl
    exact ⟨_, fd, F, He.glo_ok X G (c.fact 2 (f := .glo "common_of") rfl)⟩
  have F_is_fraction : Fu K mg "is_fraction" s_is_fraction := by
    obtain ⟨fd, F⟩ := c.def_ 3 (d := d_is_fraction) rfl
    exact ⟨_, fd, F, He.glo_ok X G (c.fact 3 (f := .glo "is_fraction") rfl)⟩
  have F_check_fraction : Fu K mg "check_fraction" s_check_fraction := by
    obtain ⟨fd, F⟩ := c.def_ 4 (d := d_check_fraction) rfl
    exact ⟨_, fd, F, He.glo_ok X G (c.fact 4 (f := .glo "check_fraction") rfl)⟩
  have F_lowest_of : Fu K mg "lowest_of" s_lowest_of := by
    obtain ⟨fd, F⟩ := c.def_ 5 (d := d_lowest_of) rfl
    exact ⟨_, fd, F, He.glo_ok X G (c.fact 5 (f := .glo "lowest_of") rfl)⟩
  have F_fraction_of : Fu K mg "fraction_of" s_fraction_of := by
    obtain ⟨fd, F⟩ := c.def_ 6 (d := d_fraction_of) rfl
    exact ⟨_, fd, F, He.glo_ok X G (c.fact 6 (f := .glo "fraction_of") rfl)⟩
  have F_plus_of : Fu K mg "plus_of" s_plus_of := by
    obtain ⟨fd, F⟩ := c.def_ 7 (d := d_plus_of) rfl
    exact ⟨_, fd, F, He.glo_ok X G (c.fact 7 (f := .glo "plus_of") rfl)⟩
  have F_times_of : Fu K mg "times_of" s_times_of := by
    obtain ⟨fd, F⟩ := c.def_ 8 (d := d_times_of) rfl
    exact ⟨_, fd, F, He.glo_ok X G (c.fact 8 (f := .glo "times_of") rfl)⟩
  have F_less_than : Fu K mg "less_than" s_less_than := by
    obtain ⟨fd, F⟩ := c.def_ 9 (d := d_less_than) rfl
    exact ⟨_, fd, F, He.glo_ok X G (c.fact 9 (f := .glo "less_than") rfl)⟩
  have F_check_fractions : Fu K mg "check_fractions" s_check_fractions := by
    obtain ⟨fd, F⟩ := c.def_ 10 (d := d_check_fractions) rfl
    exact ⟨_, fd, F, He.glo_ok X G (c.fact 10 (f := .glo "check_fractions") rfl)⟩
  have F_sum_of : Fu K mg "sum_of" s_sum_of := by
    obtain ⟨fd, F⟩ := c.def_ 11 (d := d_sum_of) rfl
    exact ⟨_, fd, F, He.glo_ok X G (c.fact 11 (f := .glo "sum_of") rfl)⟩
  have F_product_of : Fu K mg "product_of" s_product_of := by
    obtain ⟨fd, F⟩ := c.def_ 12 (d := d_product_of) rfl
    exact ⟨_, fd, F, He.glo_ok X G (c.fact 12 (f := .glo "product_of") rfl)⟩
  have F_is_less : Fu K mg "is_less" s_is_less := by
    obtain ⟨fd, F⟩ := c.def_ 13 (d := d_is_less) rfl
    exact ⟨_, fd, F, He.glo_ok X G (c.fact 13 (f := .glo "is_less") rfl)⟩
  have F__law_hash : Fu K mg "_law_hash" s__law_hash := by
    obtain ⟨fd, F⟩ := c.def_ 14 (d := d__law_hash) rfl
    exact ⟨_, fd, F, He.glo_ok X G (c.fact 14 (f := .glo "_law_hash") rfl)⟩
  have F__law_cell : Fu K mg "_law_cell" s__law_cell := by
    obtain ⟨fd, F⟩ := c.def_ 15 (d := d__law_cell) rfl
    exact ⟨_, fd, F, He.glo_ok X G (c.fact 15 (f := .glo "_law_cell") rfl)⟩
  have F__law_generator : Fu K mg "_law_generator" s__law_generator := by
    obtain ⟨fd, F⟩ := c.def_ 16 (d := d__law_generator) rfl
    exact ⟨_, fd, F, He.glo_ok X G (c.fact 16 (f := .glo "_law_generator") rfl)⟩
  have F__law_random : Fu K mg "_law_random" s__law_random := by
    obtain ⟨fd, F⟩ := c.def_ 17 (d := d__law_random) rfl
    exact ⟨_, fd, F, He.glo_ok X G (c.fact 17 (f := .glo "_law_random") rfl)⟩
  have F__law_pick : Fu K mg "_law_pick" s__law_pick := by
    obtain ⟨fd, F⟩ := c.def_ 18 (d := d__law_pick) rfl
    exact ⟨_, fd, F, He.glo_ok X G (c.fact 18 (f := .glo "_law_pick") rfl)⟩
  have F__law_copied : Fu K mg "_law_copied" s__law_copied := by
    obtain ⟨fd, F⟩ := c.def_ 19 (d := d__law_copied) rfl
    exact ⟨_, fd, F, He.glo_ok X G (c.fact 19 (f := .glo "_law_copied") rfl)⟩
  have F__law_exact : Fu K mg "_law_exact" s__law_exact := by
    obtain ⟨fd, F⟩ := c.def_ 20 (d := d__law_exact) rfl
    exact ⟨_, fd, F, He.glo_ok X G (c.fact 20 (f := .glo "_law_exact") rfl)⟩
  have F__law_low : Fu K mg "_law_low" s__law_low := by
    obtain ⟨fd, F⟩ := c.def_ 21 (d := d__law_low) rfl
    exact ⟨_, fd, F, He.glo_ok X G (c.fact 21 (f := .glo "_law_low") rfl)⟩
  have F__law_any : Fu K mg "_law_any" s__law_any := by
    obtain ⟨fd, F⟩ := c.def_ 22 (d := d__law_any) rfl
    exact ⟨_, fd, F, He.glo_ok X G (c.fact 22 (f := .glo "_law_any") rfl)⟩
  have F__law_big : Fu K mg "_law_big" s__law_big := by
    obtain ⟨fd, F⟩ := c.def_ 23 (d := d__law_big) rfl
    exact ⟨_, fd, F, He.glo_ok X G (c.fact 23 (f := .glo "_law_big") rfl)⟩
  have F__law_drawn_pair : Fu K mg "_law_drawn_pair" s__law_drawn_pair := by
    obtain ⟨fd, F⟩ := c.def_ 24 (d := d__law_drawn_pair) rfl
    exact ⟨_, fd, F, He.glo_ok X G (c.fact 24 (f := .glo "_law_drawn_pair") rfl)⟩
  have F__law_fraction : Fu K mg "_law_fraction" s__law_fraction := by
    obtain ⟨fd, F⟩ := c.def_ 25 (d := d__law_fraction) rfl
    exact ⟨_, fd, F, He.glo_ok X G (c.fact 25 (f := .glo "_law_fraction") rfl)⟩
  have F__law_is_fraction : Fu K mg "_law_is_fraction" s__law_is_fraction := by
    obtain ⟨fd, F⟩ := c.def_ 26 (d := d__law_is_fraction) rfl
    exact ⟨_, fd, F, He.glo_ok X G (c.fact 26 (f := .glo "_law_is_fraction") rfl)⟩
  have F__law_made_right : Fu K mg "_law_made_right" s__law_made_right := by
    obtain ⟨fd, F⟩ := c.def_ 27 (d := d__law_made_right) rfl
    exact ⟨_, fd, F, He.glo_ok X G (c.fact 27 (f := .glo "_law_made_right") rfl)⟩
  have F__law_sums_right : Fu K mg "_law_sums_right" s__law_sums_right := by
    obtain ⟨fd, F⟩ := c.def_ 28 (d := d__law_sums_right) rfl
    exact ⟨_, fd, F, He.glo_ok X G (c.fact 28 (f := .glo "_law_sums_right") rfl)⟩
  have F__law_long_right : Fu K mg "_law_long_right" s__law_long_right := by
    obtain ⟨fd, F⟩ := c.def_ 29 (d := d__law_long_right) rfl
    exact ⟨_, fd, F, He.glo_ok X G (c.fact 29 (f := .glo "_law_long_right") rfl)⟩
  have F_law : Fu K mg "law" s_law := by
    obtain ⟨fd, F⟩ := c.def_ 30 (d := d_law) rfl
    exact ⟨_, fd, F, He.glo_ok X G (c.fact 30 (f := .glo "law") rfl)⟩
  exact all_ok ⟨He.free_ok X G (c.fact 31 (f := .free "abs") rfl), He.free_ok X G (c.fact 32 (f := .free "bool") rfl), He.free_ok X G (c.fact 33 (f := .free "dict") rfl), He.free_ok X G (c.fact 34 (f := .free "int") rfl), He.free_ok X G (c.fact 35 (f := .free "isinstance") rfl), He.free_ok X G (c.fact 36 (f := .free "len") rfl), He.free_ok X G (c.fact 37 (f := .free "list") rfl), He.free_ok X G (c.fact 38 (f := .free "max") rfl), He.free_ok X G (c.fact 39 (f := .free "range") rfl), He.free_ok X G (c.fact 40 (f := .free "repr") rfl), He.free_ok X G (c.fact 41 (f := .free "str") rfl), He.free_ok X G (c.fact 42 (f := .free "sum") rfl), He.free_ok X G (c.fact 43 (f := .free "tuple") rfl), He.free_ok X G (c.fact 44 (f := .free "zip") rfl)⟩ F_is_whole F_check_list F_common_of F_is_fraction F_check_fraction F_lowest_of F_fraction_of F_plus_of F_times_of F_less_than F_check_fractions F_sum_of F_product_of F_is_less F__law_hash F__law_cell F__law_generator F__law_random F__law_pick F__law_copied F__law_exact F__law_low F__law_any F__law_big F__law_drawn_pair F__law_fraction F__law_is_fraction F__law_made_right F__law_sums_right F__law_long_right F_law
end My
open PySem PySem.W PySem.Calls PyProof.Rows
theorem My.holds (hm : ∀ ns : List Int, ns.length ≤ 63 → (∀ z ∈ ns, Builtin.Int.intBits z ≤ 1048576) → My.m_law [.dat (.list (ns.map .int))] [] = some (.dat (.bool true), [])) : PySem.Challenge.rw_eversame_k03_whole_fractions_made_and_ju.Holds := by
  w_on; o_law
  refine HandSHeadRun.head_any (r := OpenLaw.row PySem.Challenge.rw_eversame_k03_whole_fractions_made_and_ju) (q := view (OpenLaw.row PySem.Challenge.rw_eversame_k03_whole_fractions_made_and_ju).prog [38]) (H := My.hk) (ob := My.ob) (M := 8000) (loose := My.loose) (d := HandSHeadRun.topDef (OpenLaw.row PySem.Challenge.rw_eversame_k03_whole_fractions_made_and_ju).prog 38) (kwd := []) My.ob_eq
    (by kernel_rfl) (fun s => by kernel_rfl) My.run (by kernel_rfl) (by kernel_rfl) (by kernel_rfl) (by rfl) (by first | assumption | decide +kernel) (by decide +kernel) ⟨rfl, rfl, rfl, rfl, rfl, by decide +kernel⟩ ?hw ?hc
  case hw => w_witness2
  case hc =>
    refine DL.walk_ofD (l := PySem.Challenge.rw_eversame_k03_whole_fractions_made_and_ju) (n := 63) (k := 9) (x := "script") (m := My.m_law) rfl (by decide) (by kernel_rfl) ⟨rfl, by decide, by decide⟩ ?F hm
    intro w mg fa h Y G hmg0
    obtain ⟨K, KX, c⟩ := Y
    have hmg : mg ("law" : PySem.Str) = some (.ref fa) := by
      have e : (HandSHeadRun.topDef (OpenLaw.row PySem.Challenge.rw_eversame_k03_whole_fractions_made_and_ju).prog 38).name = ("law" : PySem.Str) := by kernel_rfl
      rw [← e]
      exact hmg0
    obtain ⟨f, fd, F, _, hm', _⟩ := (My.facts (P := (PySem.Challenge.rw_eversame_k03_whole_fractions_made_and_ju).prog) (w := w) KX G c h).ex
    have e := hmg.symm.trans hm'
    cases e
    refine ⟨K, fd, KX, fun s v => (L2.FunD.bindsA (ps := ["script"]) F fun _ _ _ _ _ _ us hl => match us, hl with | [_], _ => rfl) s [v] rfl, fun base kb nb => ?_⟩
    obtain ⟨f2, fd2, F2, D2, hm2, _⟩ := (My.facts (P := (PySem.Challenge.rw_eversame_k03_whole_fractions_made_and_ju).prog) (w := w) kb nb c base).ex
    have e2 := hmg.symm.trans hm2
    cases e2
    obtain ⟨_, _, _, _, _, _, _, _, _, _, q1, l1, _, _, _⟩ := F.ex
    obtain ⟨_, _, _, _, _, _, _, _, _, _, q2, l2, _, _, _⟩ := F2.ex
    have e3 := l1.symm.trans l2
    cases e3
    exact D2
theorem PySem.Challenge.cw_eversame_k03_whole_fractions_made_and_ju_holds : PySem.Challenge.rw_eversame_k03_whole_fractions_made_and_ju.Holds := by
  exact My.holds fun ns hl hb => My.law_eq hl hb
